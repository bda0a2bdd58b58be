/- The statement FnSpoilt holds of the given program, for every argument; there are no conditions. (Part 3 of 5.) -/
import Derived.Test.YtpdnabhpkdchjaaBFnSpoilt2
import Derived.Deep.RegionWith
import Derived.Deep.DrawnRows
namespace Go.Proofs.Ytpdnabhpkdchjaa.P
open Go.RowKit Go.Proofs.YtpdnabhpkdchjaaW.PrintWords Go.Proofs.YtpdnabhpkdchjaaW.PrintLast Go.Proofs.YtpdnabhpkdchjaaW.PrintMore
attribute [local go_sem] max2_int min2_int max_two min_two max_three min_three max_four min_four
set_option linter.unusedVariables false
set_option linter.unusedSimpArgs false
mutual
def impl_Truth.j0:Nat→List (S56)→Bool→Int→List (S88)→Option ((List (List Int)))
 | 0,_,_,_,_=>none
 | k+1,x1,x17,x615000,x615001=>if x17=true then (some ([]:List (List Int))) else (if 0≤x615000 then (if (x615000:Int).toNat≤35184372088832 then (impl_Truth.l0 k (List.replicate (x615000:Int).toNat 0) ([]:List (List Int)) x1 (x1.length:Int) 0 x615000 x615001) else (none)) else (none))
def impl_Truth.l0:Nat→List Int→List (List Int)→List (S56)→Int→Int→Int→List (S88)→Option ((List (List Int)))
 | 0,_,_,_,_,_,_,_=>none
 | k+1,x5,x6,x21,x22,x23,x615000,x615001=>if x23<x22 then (if 0≤x23 then (if x23<(x21.length:Int) then ((impl_EventOk.f k x615000 x615001 ((rd_T56 x21 x23).f0) ((rd_T56 x21 x23).f1) ((rd_T56 x21 x23).f2)).bind fun t621=>(if t621=true then (impl_Truth.j2 k x5 x6 x21 x22 x23 (((rd_T56 x21 x23).f0)==1) x615000 x615001 ((rd_T56 x21 x23).f0) ((rd_T56 x21 x23).f1) ((rd_T56 x21 x23).f2)) else (impl_Truth.j2 k x5 x6 x21 x22 x23 false x615000 x615001 ((rd_T56 x21 x23).f0) ((rd_T56 x21 x23).f1) ((rd_T56 x21 x23).f2)))) else (none)) else (none)) else (some x6)
def impl_Truth.j2:Nat→List Int→List (List Int)→List (S56)→Int→Int→Bool→Int→List (S88)→Int→Int→Int→Option ((List (List Int)))
 | 0,_,_,_,_,_,_,_,_,_,_,_=>none
 | k+1,x5,x6,x21,x22,x23,x34,x615000,x615001,x621000,x621001,x621002=>if x34=true then (if 0≤x621001 then (if x621001<(x615001.length:Int) then (if ((rd_T88 x615001 x621001).f0) ≥ 0 then (if 0≤((rd_T88 x615001 x621001).f0) then (if ((rd_T88 x615001 x621001).f0)<(x5.length:Int) then ((some (x5.set (((rd_T88 x615001 x621001).f0):Int).toNat (wrap64 ((rd x5 ((rd_T88 x615001 x621001).f0)) - x621002)):List Int)).bind fun y625=>(if ((rd_T88 x615001 x621001).f1) ≥ 0 then (if 0≤((rd_T88 x615001 x621001).f1) then (if ((rd_T88 x615001 x621001).f1)<(x5.length:Int) then ((some (y625.set (((rd_T88 x615001 x621001).f1):Int).toNat (wrap64 ((rd y625 ((rd_T88 x615001 x621001).f1))+x621002)):List Int)).bind fun y627=>((slices_Clone_int_int.f y627).bind fun t628=>(if x6.length<5864062014805 then (impl_Truth.l0 k y627 (x6 ++ [t628]) x21 x22 (wrap64 (x23+1)) x615000 x615001) else (none)))) else (none)) else (none)) else ((slices_Clone_int_int.f y625).bind fun t634=>(if x6.length<5864062014805 then (impl_Truth.l0 k y625 (x6 ++ [t634]) x21 x22 (wrap64 (x23+1)) x615000 x615001) else (none))))) else (none)) else (none)) else (if ((rd_T88 x615001 x621001).f1) ≥ 0 then (if 0≤((rd_T88 x615001 x621001).f1) then (if ((rd_T88 x615001 x621001).f1)<(x5.length:Int) then ((some (x5.set (((rd_T88 x615001 x621001).f1):Int).toNat (wrap64 ((rd x5 ((rd_T88 x615001 x621001).f1))+x621002)):List Int)).bind fun y641=>((slices_Clone_int_int.f y641).bind fun t642=>(if x6.length<5864062014805 then (impl_Truth.l0 k y641 (x6 ++ [t642]) x21 x22 (wrap64 (x23+1)) x615000 x615001) else (none)))) else (none)) else (none)) else ((slices_Clone_int_int.f x5).bind fun t648=>(if x6.length<5864062014805 then (impl_Truth.l0 k x5 (x6 ++ [t648]) x21 x22 (wrap64 (x23+1)) x615000 x615001) else (none))))) else (none)) else (none)) else ((slices_Clone_int_int.f x5).bind fun t654=>(if x6.length<5864062014805 then (impl_Truth.l0 k x5 (x6 ++ [t654]) x21 x22 (wrap64 (x23+1)) x615000 x615001) else (none)))
end
def impl_Truth.f (k:Nat) (a0_0:Int) (l0_1:List (S88)) (l1:List (S56)):Option ((List (List Int))):=(impl_LayoutOk.f a0_0 l0_1).bind fun t615=>(if t615=0 then (impl_Truth.j0 k l1 (decide ((l1.length:Int) > 2000)) a0_0 l0_1) else (impl_Truth.j0 k l1 true a0_0 l0_1))
def impl_Truth.T11:Bool × List (List Nat × List Nat):=(true,[([],[]),([],[]),([1],[1]),([0,2],[0,2]),([3],[3]),([],[]),([5],[5]),([4,6],[4,6]),([0,2,0,1,2,3,4,5,6,7],[0,2]),([8,7,0,1,2,3,4,5,6,7],[7,8])])
def impl_Truth.B11:List Nat:=[0,0,2,7,15,0,32,127,255,511]
theorem impl_Truth.tab11:rtab .any (opsOf Try.f54 11)=impl_Truth.T11:=by kernel_rfl
theorem impl_Truth.bits11:waitsOk impl_Truth.T11.2 impl_Truth.B11=true:=by kernel_rfl
def impl_Truth.T13:Bool × List (List Nat × List Nat):=(true,[([],[]),([],[]),([1],[1]),([0,2],[0,2]),([3],[3]),([],[]),([5],[5]),([4,6],[4,6]),([0,2,0,1,2,3,4,5,6,7],[0,2]),([8,7,0,1,2,3,4,5,6,7],[7,8])])
def impl_Truth.B13:List Nat:=[0,0,2,7,15,0,32,127,255,511]
theorem impl_Truth.tab13:rtab .any (opsOf Try.f54 13)=impl_Truth.T13:=by kernel_rfl
theorem impl_Truth.bits13:waitsOk impl_Truth.T13.2 impl_Truth.B13=true:=by kernel_rfl
set_option maxHeartbeats 8000000 in
set_option maxRecDepth 100000 in
theorem impl_Truth.calls (k:Nat) (a0_0:Int) (A0_1:Option Addr) (c0_1:Nat) (l0_1:List (S88)) (A1:Option Addr) (c1:Nat) (l1:List (S56)) (r:List (List Int)) (w:World) (hr0_1:Kd.C k88 w A0_1 l0_1.length l0_1) (hc0_1:l0_1.length≤c0_1) (hr1:Kd.C k56 w A1 l1.length l1) (hc1:l1.length≤c1) (h:impl_Truth.f k a0_0 l0_1 l1=some r) :
  Calls Try.prog 54 #[.agg #[.int .i64 a0_0,.slice A0_1 l0_1.length c0_1],.slice A1 l1.length c1] w fun e w'=>∃ v0_:Value,e=.returned (v0_)∧Kd.S (Kd.slice 3 (Kd.int .i64)) 59 w' w.heap.size (fun _=>True) v0_ r∧Below w.heap.size w w':=by
 have hu30:=Try.underlying30
 have hu56:=Try.underlying56
 have hu88:=Try.underlying88
 have HR0_1:=Aside0.mk hr0_1
 have HC0_1:=Aside0.mk hc0_1
 clear hr0_1 hc0_1
 have HR1:=Aside0.mk hr1
 have HC1:=Aside0.mk hc1
 clear hr1 hc1
 have HB:=Aside0.mk (Below.refl w.heap.size w)
 have H:((impl_LayoutOk.f a0_0 l0_1).bind fun t615=>(if t615=0 then (impl_Truth.j0 k l1 (decide ((l1.length:Int) > 2000)) a0_0 l0_1) else (impl_Truth.j0 k l1 true a0_0 l0_1)))=some r:=h
 clear h
 have HC3:=Aside0.mk H
 clear H
 go_enter Try.func54,Try.ntmps54
 go_upto_region 1 with (first|((with_reducible refine gate_dst (N:=2) rfl ?_);(try (refine gate_guard (by rfl) ?_;dsimp only));refine box_event ?hg (N:=2) ?hd (cs:=#[.int .i64 a0_0,.slice A0_1 l0_1.length c0_1]) (t:=30) ?hr ?_;(case hd=>rfl);(case hg=>rfl);(case hr=>first|(go_simp;done)|(go_simp;rfl));intro gb614 hg w4 hbox hb;have n0_:=Aside0.mk (below_step (by exact HB.out) hb);have n1_:=Aside0.mk (hbox);have n2_:=Aside0.mk ((by rw [hg];exact (below_size (by exact HB.out)):w.heap.size≤gb614));have n3_:=Aside0.mk ((by rw [hg];exact (below_size (by exact HB.out)):w.heap.size≤gb614));clear HB;have HB:=n0_;have BK614:=n1_;have GW614:=n2_;have GE614:=n3_;clear n0_ n1_ n2_ n3_;clear hb hbox hg))
 (try simp only [Act.put,List.setIfInBounds_toArray,List.set_cons_zero,List.set_cons_succ])
 go_cut [17] (fun v17 wc=>∃ (kq:Nat) (x17_2:Bool),v17=.bool x17_2∧Aside0 (impl_Truth.j0 kq l1 x17_2 a0_0 l0_1=some r)∧Aside0 (kq≤k)∧Aside0 (wc.heap[gb614]?=some (.cells #[.int .i64 a0_0,(.slice A0_1 l0_1.length c0_1)] 30 (0,0)))∧Aside0 (Below w.heap.size w wc))
 case first =>
  have H:=HC3.out
  clear HC3
  replace H:=Option.bind_eq_some_iff.mp H
  obtain ⟨t615,A50,H⟩:=H
  replace H:(if t615=0 then (impl_Truth.j0 k l1 (decide ((l1.length:Int) > 2000)) a0_0 l0_1) else (impl_Truth.j0 k l1 true a0_0 l0_1))=some r:=H
  have A5:=Aside0.mk A50
  clear A50
  by_cases c6:t615=0
  ·rw [if_pos c6] at H
   have c6b0:(t615==0)=true:=beq_iff_eq.mpr c6
   have c6b1:(t615 != 0)=false:=bne_eq_false_iff_eq.mpr c6
   clear c6
   (first|rw [c6b0]|(simp only [i64_w,i32_w];rw [c6b0])|skip)
   have H':=Aside0.mk H
   clear H
   have hcz7_0:w4.cell? ⟨gb614,0,none⟩=some (.int .i64 a0_0):=(blk_cell BK614.out 0).trans rfl
   have hcz7_1:w4.cell? ⟨gb614,1,none⟩=some (.slice A0_1 l0_1.length c0_1):=(blk_cell BK614.out 1).trans rfl
   have hfz7_0:=blk_frozen BK614.out 0
   have hfz7_1:=blk_frozen BK614.out 1
   go_wp2_with (first|((with_reducible refine gate_callee (f:=25) rfl ?_);refine goesL_ (some 11) rfl rfl Try.func25 (by kernel_rfl) rfl #[.agg #[.int .i64 a0_0,.slice A0_1 l0_1.length c0_1]] rfl (by (try simp only [List.map_toArray,List.map_cons,List.map_nil]);first|done|rfl|(simp only [List.length_drop,List.length_take];rfl)) ?_;(with_reducible refine (impl_LayoutOk.calls a0_0 _ _ l0_1 t615 _ ?side1 ?side2 A5.out).mono ?_);(case side1=>repeat (first|exact (Kd.C_below HR0_1.out HB.out)|(with_reducible refine Kd.C_alloc ?_ _)|(with_reducible refine Kd.C_drewN ?_ _)|(with_reducible refine Kd.C_drew ?_)));(case side2=>exact HC0_1.out);rintro e w8 ⟨rfl,hb⟩;refine ⟨_,rfl,?_⟩;have n0_:=Aside0.mk (blk_below (g:=gb614) (o:=.cells #[.int .i64 a0_0,.slice A0_1 l0_1.length c0_1] 30 (0,0)) (by exact BK614.out) hb);have n1_:=Aside0.mk (below_step (by exact HB.out) hb);clear BK614;clear HB;have BK614:=n0_;have HB:=n1_;clear n0_ n1_;(try clear hb);(try clear hb2);(try clear hk);(try clear hi)))
   go_meet
   case rel=>exact ⟨_,(decide ((l1.length:Int) > 2000)),(by first|rfl|(simp;done)|(simp [*];done)),H',⟨by first|omega|exact Nat.le_refl _⟩,⟨by exact BK614.out⟩,⟨by exact HB.out⟩⟩
  rw [if_neg c6] at H
  have c6b0:(t615==0)=false:=beq_eq_false_iff_ne.mpr c6
  have c6b1:(t615 != 0)=true:=bne_iff_ne.mpr c6
  (first|rw [c6b0]|(simp only [i64_w,i32_w];rw [c6b0])|skip)
  have H':=Aside0.mk H
  clear H
  have hcz9_0:w4.cell? ⟨gb614,0,none⟩=some (.int .i64 a0_0):=(blk_cell BK614.out 0).trans rfl
  have hcz9_1:w4.cell? ⟨gb614,1,none⟩=some (.slice A0_1 l0_1.length c0_1):=(blk_cell BK614.out 1).trans rfl
  have hfz9_0:=blk_frozen BK614.out 0
  have hfz9_1:=blk_frozen BK614.out 1
  go_wp2_with (first|((with_reducible refine gate_callee (f:=25) rfl ?_);refine goesL_ (some 11) rfl rfl Try.func25 (by kernel_rfl) rfl #[.agg #[.int .i64 a0_0,.slice A0_1 l0_1.length c0_1]] rfl (by (try simp only [List.map_toArray,List.map_cons,List.map_nil]);first|done|rfl|(simp only [List.length_drop,List.length_take];rfl)) ?_;(with_reducible refine (impl_LayoutOk.calls a0_0 _ _ l0_1 t615 _ ?side1 ?side2 A5.out).mono ?_);(case side1=>repeat (first|exact (Kd.C_below HR0_1.out HB.out)|(with_reducible refine Kd.C_alloc ?_ _)|(with_reducible refine Kd.C_drewN ?_ _)|(with_reducible refine Kd.C_drew ?_)));(case side2=>exact HC0_1.out);rintro e w10 ⟨rfl,hb⟩;refine ⟨_,rfl,?_⟩;have n0_:=Aside0.mk (blk_below (g:=gb614) (o:=.cells #[.int .i64 a0_0,.slice A0_1 l0_1.length c0_1] 30 (0,0)) (by exact BK614.out) hb);have n1_:=Aside0.mk (below_step (by exact HB.out) hb);clear BK614;clear HB;have BK614:=n0_;have HB:=n1_;clear n0_ n1_;(try clear hb);(try clear hb2);(try clear hk);(try clear hi)))
  go_meet
  case rel=>exact ⟨_,(true),(by first|rfl|(simp;done)|(simp [*];done)),H',⟨by first|omega|exact Nat.le_refl _⟩,⟨by exact BK614.out⟩,⟨by exact HB.out⟩⟩
 case rest =>
  clear HC3
  try clear c1
  try clear c2
  try clear p2
  try clear c5
  try clear c6
  try clear c6b0
  try clear c6b1
  try clear hcz7_0
  try clear hcz7_1
  try clear hcz9_0
  try clear hcz9_1
  try clear hfz7_0
  try clear hfz7_1
  try clear hfz9_0
  try clear hfz9_1
  obtain ⟨kq,x17_2,rfl,HA,HJ2,BK614,HB⟩:=hcut
  cases kq with
  | zero=>exact absurd HA.out (by simp [impl_Truth.j0])
  | succ kj2 =>
   have H:=HA.out
   clear HA
   simp only [impl_Truth.j0] at H
   by_cases c11:x17_2=true
   ·subst c11
    have H1:(some ([]:List (List Int)))=some r:=by rw [if_pos rfl] at H;exact H
    clear H
    have H:=H1
    clear H1
    obtain rfl:=Option.some.inj H
    go_wp2
    go_ret
    exact ⟨_,by first|rfl|(simp [errW_none,errW_some] <;> rfl)|(simp [*,errW_none,errW_some] <;> rfl),by first|exact Kd.S_nil _ _ _ _ _|exact Kd.N_nil _ _ _ _ _|exact Kd.V_nil _ _ _ _ _|exact Kd.Q_nil _ _ _ _ _|exact Kd.R_nil _ _ _ _ _,by exact HB.out⟩
   replace c11:=Bool.eq_false_iff.mpr c11
   subst c11
   have H1:(if 0≤a0_0 then (if (a0_0:Int).toNat≤35184372088832 then (impl_Truth.l0 kj2 (List.replicate (a0_0:Int).toNat 0) ([]:List (List Int)) l1 (l1.length:Int) 0 a0_0 l0_1) else (none)) else (none))=some r:=by rw [if_neg (show ¬ (false=true) by decide)] at H;exact H
   clear H
   have H:=H1
   clear H1
   by_cases c12:0≤a0_0
   ·rw [if_pos c12] at H
    have c12b0:=eq_true c12
    have c12b1:decide (0≤a0_0)=true:=decide_eq_true c12
    clear c12
    by_cases c13:(a0_0:Int).toNat≤35184372088832
    ·rw [if_pos c13] at H
     have c13b0:=eq_true c13
     have c13b1:decide ((a0_0:Int).toNat≤35184372088832)=true:=decide_eq_true c13
     clear c13
     obtain ⟨y616,hy616⟩:∃ y_:List Int,y_=(List.replicate (a0_0:Int).toNat 0):=⟨_,rfl⟩
     replace H:(impl_Truth.l0 kj2 y616 ([]:List (List Int)) l1 (l1.length:Int) 0 a0_0 l0_1)=some r:=by first|(rw [hy616];with_reducible exact H)|(have H2_:=(Option.bind_some _ _).symm.trans H;rw [hy616];with_reducible exact H2_)|(have H2_:=(Option.bind_some _ _).symm.trans H;with_reducible exact H2_)|with_reducible exact H|(rw [hy616];exact H)|exact H
     have Ny616:=Aside0.mk hy616
     clear hy616
     have H':=Aside0.mk H
     clear H
     have hcz14_0:wc.cell? ⟨gb614,0,none⟩=some (.int .i64 a0_0):=(blk_cell BK614.out 0).trans rfl
     have hcz14_1:wc.cell? ⟨gb614,1,none⟩=some (.slice A0_1 l0_1.length c0_1):=(blk_cell BK614.out 1).trans rfl
     have hfz14_0:=blk_frozen BK614.out 0
     have hfz14_1:=blk_frozen BK614.out 1
     go_wp2_with (first|((with_reducible refine gate_dst (N:=20) rfl ?_);(try (refine gate_guard (by rfl) ?_;dsimp only));refine Kd.R_make (Kd.int .i64) _ 3 rfl (N:=20) rfl 59 _ _ rfl a0_0 rfl rfl Try.underlying59 (.int .i64 0) 8 info3 rfl (by decide) (by omega) 0 (ok:=fun _=>True) (okp:=fun _=>True) rfl (fun _ hk=>hk) trivial (of_decide_eq_true (by first|(with_reducible assumption)|assumption)) (Nat.le_trans (Nat.mul_le_mul_right _ (of_decide_eq_true (by first|(with_reducible assumption)|assumption):a0_0.toNat≤35184372088832)) (by omega)) (Below.refl _ _) (Nat.le_refl _) ?_;intro v617 w15 ho16 hb hg_ hnew_;clear hg_ hnew_;(first|rw [← Ny616.out] at ho16|(simp only [Int.reduceToNat] at ho16;rw [← Ny616.out] at ho16));have n0_:=Aside0.mk (Kd.R_lower ho16 (below_size (by repeat (first|(with_reducible first|exact HB.out|apply below_alloc|apply pw_below_drewN|apply below_drew1|refine below_set ?_ GE614.out)|exact HB.out))));have n1_:=Aside0.mk (blk_below (g:=gb614) (o:=.cells #[.int .i64 a0_0,.slice A0_1 l0_1.length c0_1] 30 (0,0)) (by (with_reducible repeat (first|refine blk_drewN ?_ _|refine blk_drew ?_|refine blk_alloc ?_ _));exact BK614.out) hb);have n2_:=Aside0.mk (below_step (by repeat (first|(with_reducible first|exact HB.out|apply below_alloc|apply pw_below_drewN|apply below_drew1|refine below_set ?_ GE614.out)|exact HB.out)) hb);clear BK614;clear HB;have HO618:=n0_;have BK614:=n1_;have HB:=n2_;clear n0_ n1_ n2_;clear hb ho16))
     go_loopg [6,23] kj2 (fun kq v6 v23 w'=>∃ (x5_2:List Int) (x6_2:List (List Int)) (x23_2:Int),v23=.int .i64 x23_2∧Aside0 (impl_Truth.l0 kq x5_2 x6_2 l1 (l1.length:Int) x23_2 a0_0 l0_1=some r)∧Aside0 (kq≤kj2)∧Aside0 (Kd.R (Kd.int .i64) 3 w' w.heap.size (fun _=>True) v617 x5_2)∧Aside0 (Kd.S (Kd.slice 3 (Kd.int .i64)) 59 w' w.heap.size (fun k_=>some k_ ≠ (v617:Value).ownBlock) v6 x6_2)∧Aside0 (w'.heap[gb614]?=some (.cells #[.int .i64 a0_0,(.slice A0_1 l0_1.length c0_1)] 30 (0,0)))∧Aside0 (Below w.heap.size w w'))
     case atStart=>exact ⟨(y616),(([]:List (List Int))),(0),(by first|rfl|(simp;done)|(simp [*];done)),H',⟨Nat.le_refl _⟩,⟨by (with_reducible repeat (first|apply Kd.R_alloc|apply Kd.R_drewN|apply Kd.R_drew));exact HO618.out⟩,⟨by first|exact Kd.S_nil _ _ _ _ _|exact Kd.N_nil _ _ _ _ _|exact Kd.V_nil _ _ _ _ _|exact Kd.Q_nil _ _ _ _ _|exact Kd.R_nil _ _ _ _ _⟩,⟨by (with_reducible repeat (first|refine blk_drewN ?_ _|refine blk_drew ?_|refine blk_alloc ?_ _));exact BK614.out⟩,⟨by repeat (first|(with_reducible first|exact HB.out|apply below_alloc|apply pw_below_drewN|apply below_drew1|refine below_set ?_ GE614.out)|exact HB.out)⟩⟩
     case round =>
      clear H'
      try clear c1
      try clear c2
      try clear p2
      try clear c5
      try clear c6
      try clear c6b0
      try clear c6b1
      try clear c11
      try clear c12
      try clear c12b0
      try clear c12b1
      try clear c13
      try clear c13b0
      try clear c13b1
      try clear hcz14_0
      try clear hcz14_1
      try clear hcz7_0
      try clear hcz7_1
      try clear hcz9_0
      try clear hcz9_1
      try clear hfz14_0
      try clear hfz14_1
      try clear hfz7_0
      try clear hfz7_1
      try clear hfz9_0
      try clear hfz9_1
      try clear p2
      obtain ⟨x5_2,x6_2,x23_2,rfl,HA,HK2,HO_5,HO_6,BK614,HB⟩:=hrel
      cases gk with
      | zero=>exact absurd HA.out (by simp [impl_Truth.l0])
      | succ k2 =>
       have H:=HA.out
       clear HA
       simp only [impl_Truth.l0] at H
       by_cases c17:x23_2<(l1.length:Int)
       ·rw [if_pos c17] at H
        have c17b0:decide (x23_2<(l1.length:Int))=true:=decide_eq_true c17
        clear c17
        by_cases c18:0≤x23_2
        ·rw [if_pos c18] at H
         have c18b0:decide (0≤x23_2)=true:=decide_eq_true c18
         clear c18
         by_cases c19:x23_2<(l1.length:Int)
         ·rw [if_pos c19] at H
          have c19b0:decide (x23_2<(l1.length:Int))=true:=decide_eq_true c19
          clear c19
          have HC20:=Aside0.mk H
          clear H
          have p619:0≤(x23_2:Int):=of_decide_eq_true (by first|(with_reducible assumption)|assumption)
          have q619:x23_2<(l1.length:Int):=of_decide_eq_true (by first|(with_reducible assumption)|assumption)
          obtain ⟨ad619,e619,hx619_0,hx619_1,hx619_2⟩:=at_T56 HR1.out x23_2 p619 q619
          cases e619
          replace hx619_0:=(HB.out.cell (World.block_lt_of_cell? w _ hx619_0)).trans hx619_0
          replace hx619_1:=(HB.out.cell (World.block_lt_of_cell? w _ hx619_1)).trans hx619_1
          replace hx619_2:=(HB.out.cell (World.block_lt_of_cell? w _ hx619_2)).trans hx619_2
          replace p619:=eq_true p619
          replace q619:=eq_true q619
          go_upto_region 8 with (first|((with_reducible refine gate_dst (N:=8) rfl ?_);(try (refine gate_guard (by rfl) ?_;dsimp only));refine box_event ?hg (N:=8) ?hd (cs:=#[.int .i64 0,.int .i64 0,.int .i64 0]) (t:=56) ?hr ?_;(case hd=>rfl);(case hg=>rfl);(case hr=>first|(go_simp;done)|(go_simp;rfl));intro gb620 hg w21 hbox hb;have n0_:=Aside0.mk (Kd.R_below (by (with_reducible repeat (first|apply Kd.R_alloc|apply Kd.R_drewN|apply Kd.R_drew));exact HO_5.out) hb);have n1_:=Aside0.mk (Kd.S_below (by (with_reducible repeat (first|apply Kd.S_alloc|apply Kd.S_drewN|apply Kd.S_drew));exact HO_6.out) hb);have n2_:=Aside0.mk (blk_below (g:=gb614) (o:=.cells #[.int .i64 a0_0,.slice A0_1 l0_1.length c0_1] 30 (0,0)) (by (with_reducible repeat (first|refine blk_drewN ?_ _|refine blk_drew ?_|refine blk_alloc ?_ _));exact BK614.out) hb);have n3_:=Aside0.mk (below_step (by repeat (first|(with_reducible first|exact HB.out|apply below_alloc|apply pw_below_drewN|apply below_drew1|refine below_set ?_ GE614.out)|exact HB.out)) hb);have n4_:=Aside0.mk (hbox);have n5_:=Aside0.mk ((by rw [hg];exact (below_size (by repeat (first|(with_reducible first|exact HB.out|apply below_alloc|apply pw_below_drewN|apply below_drew1|refine below_set ?_ GE614.out)|exact HB.out))):w.heap.size≤gb620));have n6_:=Aside0.mk ((by rw [hg];exact (below_size (by repeat (first|(with_reducible first|exact HB.out|apply below_alloc|apply pw_below_drewN|apply below_drew1|refine below_set ?_ GE614.out)|exact HB.out))):w.heap.size≤gb620));have n7_:=Aside0.mk ((by rw [hg];exact Nat.ne_of_lt (blk_lt (g:=gb614) (o:=.cells #[.int .i64 a0_0,.slice A0_1 l0_1.length c0_1] 30 (0,0)) (by (with_reducible repeat (first|refine blk_drewN ?_ _|refine blk_drew ?_|refine blk_alloc ?_ _));exact BK614.out)):gb614 ≠ gb620));have n8_:=Aside0.mk ((by rw [hg];exact Nat.ne_of_gt (blk_lt (g:=gb614) (o:=.cells #[.int .i64 a0_0,.slice A0_1 l0_1.length c0_1] 30 (0,0)) (by (with_reducible repeat (first|refine blk_drewN ?_ _|refine blk_drew ?_|refine blk_alloc ?_ _));exact BK614.out)):gb620 ≠ gb614));clear HO_5;clear HO_6;clear BK614;clear HB;have HO_5:=n0_;have HO_6:=n1_;have BK614:=n2_;have HB:=n3_;have BK620:=n4_;have GW620:=n5_;have GE620:=n6_;have NB614_620:=n7_;have NB620_614:=n8_;clear n0_ n1_ n2_ n3_ n4_ n5_ n6_ n7_ n8_;clear hb hbox hg;have hnb22:=NB620_614.out;have hnc22:=NB614_620.out;have hcz23_0:w21.cell? ⟨gb620,0,none⟩=some (.int .i64 0):=(blk_cell BK620.out 0).trans rfl;have hcz23_1:w21.cell? ⟨gb620,1,none⟩=some (.int .i64 0):=(blk_cell BK620.out 1).trans rfl;have hcz23_2:w21.cell? ⟨gb620,2,none⟩=some (.int .i64 0):=(blk_cell BK620.out 2).trans rfl;have hfz23_0:=blk_frozen BK620.out 0;have hfz23_1:=blk_frozen BK620.out 1;have hfz23_2:=blk_frozen BK620.out 2))
          (try simp only [Act.put,List.setIfInBounds_toArray,List.set_cons_zero,List.set_cons_succ])
          go_cut [34] (fun v34 wc=>∃ (kq:Nat) (x34_19:Bool),v34=.bool x34_19∧Aside0 (impl_Truth.j2 kq x5_2 x6_2 l1 (l1.length:Int) x23_2 x34_19 a0_0 l0_1 ((rd_T56 l1 x23_2).f0) ((rd_T56 l1 x23_2).f1) ((rd_T56 l1 x23_2).f2)=some r)∧Aside0 (kq≤k2)∧Aside0 (Kd.R (Kd.int .i64) 3 wc w.heap.size (fun _=>True) v617 x5_2)∧Aside0 (Kd.S (Kd.slice 3 (Kd.int .i64)) 59 wc w.heap.size (fun k_=>some k_ ≠ (v617:Value).ownBlock) u6 x6_2)∧Aside0 (wc.heap[gb614]?=some (.cells #[.int .i64 a0_0,(.slice A0_1 l0_1.length c0_1)] 30 (0,0)))∧Aside0 (wc.heap[gb620]?=some (.cells #[.int .i64 ((rd_T56 l1 x23_2).f0),.int .i64 ((rd_T56 l1 x23_2).f1),.int .i64 ((rd_T56 l1 x23_2).f2)] 56 (0,0)))∧Aside0 (Below w.heap.size w wc))
          case first =>
           have H:=HC20.out
           clear HC20
           replace H:=Option.bind_eq_some_iff.mp H
           obtain ⟨t621,A240,H⟩:=H
           replace H:(if t621=true then (impl_Truth.j2 k2 x5_2 x6_2 l1 (l1.length:Int) x23_2 (((rd_T56 l1 x23_2).f0)==1) a0_0 l0_1 ((rd_T56 l1 x23_2).f0) ((rd_T56 l1 x23_2).f1) ((rd_T56 l1 x23_2).f2)) else (impl_Truth.j2 k2 x5_2 x6_2 l1 (l1.length:Int) x23_2 false a0_0 l0_1 ((rd_T56 l1 x23_2).f0) ((rd_T56 l1 x23_2).f1) ((rd_T56 l1 x23_2).f2)))=some r:=H
           have A24:=Aside0.mk A240
           clear A240
           by_cases c25:t621=true
           ·subst c25
            have H1:(impl_Truth.j2 k2 x5_2 x6_2 l1 (l1.length:Int) x23_2 (((rd_T56 l1 x23_2).f0)==1) a0_0 l0_1 ((rd_T56 l1 x23_2).f0) ((rd_T56 l1 x23_2).f1) ((rd_T56 l1 x23_2).f2))=some r:=by rw [if_pos rfl] at H;exact H
            clear H
            have H:=H1
            clear H1
            have H':=Aside0.mk H
            clear H
            have hnb26:=NB614_620.out
            have hnc26:=NB620_614.out
            have hcz27_0:w21.cell? ⟨gb614,0,none⟩=some (.int .i64 a0_0):=(blk_cell BK614.out 0).trans rfl
            have hcz27_1:w21.cell? ⟨gb614,1,none⟩=some (.slice A0_1 l0_1.length c0_1):=(blk_cell BK614.out 1).trans rfl
            have hfz27_0:=blk_frozen BK614.out 0
            have hfz27_1:=blk_frozen BK614.out 1
            have hcz28_0:w21.cell? ⟨gb620,0,none⟩=some (.int .i64 0):=(blk_cell BK620.out 0).trans rfl
            have hcz28_1:w21.cell? ⟨gb620,1,none⟩=some (.int .i64 0):=(blk_cell BK620.out 1).trans rfl
            have hcz28_2:w21.cell? ⟨gb620,2,none⟩=some (.int .i64 0):=(blk_cell BK620.out 2).trans rfl
            have hfz28_0:=blk_frozen BK620.out 0
            have hfz28_1:=blk_frozen BK620.out 1
            have hfz28_2:=blk_frozen BK620.out 2
            go_wp2_with (first|((with_reducible refine gate_callee (f:=36) rfl ?_);refine goesL_ (some 29) rfl rfl Try.func36 (by kernel_rfl) rfl #[.agg #[.int .i64 a0_0,.slice A0_1 l0_1.length c0_1],.agg #[.int .i64 ((rd_T56 l1 x23_2).f0),.int .i64 ((rd_T56 l1 x23_2).f1),.int .i64 ((rd_T56 l1 x23_2).f2)]] rfl (by (try simp only [List.map_toArray,List.map_cons,List.map_nil]);first|done|rfl|(simp only [List.length_drop,List.length_take];rfl)) ?_;(with_reducible refine (impl_EventOk.calls k2 a0_0 _ _ l0_1 ((rd_T56 l1 x23_2).f0) ((rd_T56 l1 x23_2).f1) ((rd_T56 l1 x23_2).f2) true _ ?side1 ?side2 A24.out).mono ?_);(case side1=>exact Kd.C_below HR0_1.out (by repeat (first|(with_reducible first|exact HB.out|apply below_alloc|apply pw_below_drewN|apply below_drew1|refine below_set ?_ GE614.out|refine below_set ?_ GE620.out)|exact HB.out)));(case side2=>exact HC0_1.out);rintro e w29 ⟨rfl,hb⟩;refine ⟨_,rfl,?_⟩;have n0_:=Aside0.mk (Kd.R_below (by (with_reducible repeat (first|apply Kd.R_alloc|apply Kd.R_drewN|apply Kd.R_drew));exact (Kd.R_mono (Kd.R_far (p:=⟨gb620,2,none⟩) (Kd.R_far (p:=⟨gb620,1,none⟩) (Kd.R_far (p:=⟨gb620,0,none⟩) (Kd.R_types HO_5.out BK620.out (by decide)) (fun _ hk=>hk.2) (.int .i64 ((rd_T56 l1 x23_2).f0))) (fun _ hk=>hk.2) (.int .i64 ((rd_T56 l1 x23_2).f1))) (fun _ hk=>hk.2) (.int .i64 ((rd_T56 l1 x23_2).f2))) (fun _ h_=>h_.1))) hb);have n1_:=Aside0.mk (Kd.S_below (by (with_reducible repeat (first|apply Kd.S_alloc|apply Kd.S_drewN|apply Kd.S_drew));exact (Kd.S_mono (Kd.S_far (p:=⟨gb620,2,none⟩) (Kd.S_far (p:=⟨gb620,1,none⟩) (Kd.S_far (p:=⟨gb620,0,none⟩) (Kd.S_types HO_6.out BK620.out (by decide)) (fun _ hk=>hk.2) (.int .i64 ((rd_T56 l1 x23_2).f0))) (fun _ hk=>hk.2) (.int .i64 ((rd_T56 l1 x23_2).f1))) (fun _ hk=>hk.2) (.int .i64 ((rd_T56 l1 x23_2).f2))) (fun _ h_=>h_.1))) hb);have n2_:=Aside0.mk (blk_below (g:=gb614) (o:=.cells #[.int .i64 a0_0,.slice A0_1 l0_1.length c0_1] 30 (0,0)) (by (with_reducible repeat (first|refine blk_drewN ?_ _|refine blk_drew ?_|refine blk_alloc ?_ _));refine blk_far ?_ NB614_620.out _;(with_reducible repeat (first|refine blk_drewN ?_ _|refine blk_drew ?_|refine blk_alloc ?_ _));refine blk_far ?_ NB614_620.out _;(with_reducible repeat (first|refine blk_drewN ?_ _|refine blk_drew ?_|refine blk_alloc ?_ _));refine blk_far ?_ NB614_620.out _;(with_reducible repeat (first|refine blk_drewN ?_ _|refine blk_drew ?_|refine blk_alloc ?_ _));exact BK614.out) hb);have n3_:=Aside0.mk (blk_below (g:=gb620) (o:=.cells #[.int .i64 ((rd_T56 l1 x23_2).f0),.int .i64 ((rd_T56 l1 x23_2).f1),.int .i64 ((rd_T56 l1 x23_2).f2)] 56 (0,0)) (by (with_reducible repeat (first|refine blk_drewN ?_ _|refine blk_drew ?_|refine blk_alloc ?_ _));refine blk_put (cs:=#[.int .i64 ((rd_T56 l1 x23_2).f0),.int .i64 ((rd_T56 l1 x23_2).f1),.int .i64 0]) ?_ 2 _ rfl;(with_reducible repeat (first|refine blk_drewN ?_ _|refine blk_drew ?_|refine blk_alloc ?_ _));refine blk_put (cs:=#[.int .i64 ((rd_T56 l1 x23_2).f0),.int .i64 0,.int .i64 0]) ?_ 1 _ rfl;(with_reducible repeat (first|refine blk_drewN ?_ _|refine blk_drew ?_|refine blk_alloc ?_ _));refine blk_put (cs:=#[.int .i64 0,.int .i64 0,.int .i64 0]) ?_ 0 _ rfl;(with_reducible repeat (first|refine blk_drewN ?_ _|refine blk_drew ?_|refine blk_alloc ?_ _));exact BK620.out) hb);have n4_:=Aside0.mk (below_step (by repeat (first|(with_reducible first|exact HB.out|apply below_alloc|apply pw_below_drewN|apply below_drew1|refine below_set ?_ GE614.out|refine below_set ?_ GE620.out)|exact HB.out)) hb);clear HO_5;clear HO_6;clear BK614;clear BK620;clear HB;have HO_5:=n0_;have HO_6:=n1_;have BK614:=n2_;have BK620:=n3_;have HB:=n4_;clear n0_ n1_ n2_ n3_ n4_;(try clear hb);(try clear hb2);(try clear hk);(try clear hi);have hcz30_0:w29.cell? ⟨gb620,0,none⟩=some (.int .i64 ((rd_T56 l1 x23_2).f0)):=(blk_cell BK620.out 0).trans rfl;have hcz30_1:w29.cell? ⟨gb620,1,none⟩=some (.int .i64 ((rd_T56 l1 x23_2).f1)):=(blk_cell BK620.out 1).trans rfl;have hcz30_2:w29.cell? ⟨gb620,2,none⟩=some (.int .i64 ((rd_T56 l1 x23_2).f2)):=(blk_cell BK620.out 2).trans rfl;have hfz30_0:=blk_frozen BK620.out 0;have hfz30_1:=blk_frozen BK620.out 1;have hfz30_2:=blk_frozen BK620.out 2))
            go_meet
            case rel=>exact ⟨_,((((rd_T56 l1 x23_2).f0)==1)),(by first|rfl|(simp;done)|(simp [*];done)),H',⟨by have:=HJ2.out;have:=HK2.out;first|omega|exact Nat.le_refl _⟩,⟨by (with_reducible repeat (first|apply Kd.R_alloc|apply Kd.R_drewN|apply Kd.R_drew));exact HO_5.out⟩,⟨by (with_reducible repeat (first|apply Kd.S_alloc|apply Kd.S_drewN|apply Kd.S_drew));exact HO_6.out⟩,⟨by (with_reducible repeat (first|refine blk_drewN ?_ _|refine blk_drew ?_|refine blk_alloc ?_ _));exact BK614.out⟩,⟨by (with_reducible repeat (first|refine blk_drewN ?_ _|refine blk_drew ?_|refine blk_alloc ?_ _));exact BK620.out⟩,⟨by repeat (first|(with_reducible first|exact HB.out|apply below_alloc|apply pw_below_drewN|apply below_drew1|refine below_set ?_ GE614.out|refine below_set ?_ GE620.out)|exact HB.out)⟩⟩
           replace c25:=Bool.eq_false_iff.mpr c25
           subst c25
           have H1:(impl_Truth.j2 k2 x5_2 x6_2 l1 (l1.length:Int) x23_2 false a0_0 l0_1 ((rd_T56 l1 x23_2).f0) ((rd_T56 l1 x23_2).f1) ((rd_T56 l1 x23_2).f2))=some r:=by rw [if_neg (show ¬ (false=true) by decide)] at H;exact H
           clear H
           have H:=H1
           clear H1
           have H':=Aside0.mk H
           clear H
           have hnb31:=NB614_620.out
           have hnc31:=NB620_614.out
           have hcz32_0:w21.cell? ⟨gb614,0,none⟩=some (.int .i64 a0_0):=(blk_cell BK614.out 0).trans rfl
           have hcz32_1:w21.cell? ⟨gb614,1,none⟩=some (.slice A0_1 l0_1.length c0_1):=(blk_cell BK614.out 1).trans rfl
           have hfz32_0:=blk_frozen BK614.out 0
           have hfz32_1:=blk_frozen BK614.out 1
           have hcz33_0:w21.cell? ⟨gb620,0,none⟩=some (.int .i64 0):=(blk_cell BK620.out 0).trans rfl
           have hcz33_1:w21.cell? ⟨gb620,1,none⟩=some (.int .i64 0):=(blk_cell BK620.out 1).trans rfl
           have hcz33_2:w21.cell? ⟨gb620,2,none⟩=some (.int .i64 0):=(blk_cell BK620.out 2).trans rfl
           have hfz33_0:=blk_frozen BK620.out 0
           have hfz33_1:=blk_frozen BK620.out 1
           have hfz33_2:=blk_frozen BK620.out 2
           go_wp2_with (first|((with_reducible refine gate_callee (f:=36) rfl ?_);refine goesL_ (some 29) rfl rfl Try.func36 (by kernel_rfl) rfl #[.agg #[.int .i64 a0_0,.slice A0_1 l0_1.length c0_1],.agg #[.int .i64 ((rd_T56 l1 x23_2).f0),.int .i64 ((rd_T56 l1 x23_2).f1),.int .i64 ((rd_T56 l1 x23_2).f2)]] rfl (by (try simp only [List.map_toArray,List.map_cons,List.map_nil]);first|done|rfl|(simp only [List.length_drop,List.length_take];rfl)) ?_;(with_reducible refine (impl_EventOk.calls k2 a0_0 _ _ l0_1 ((rd_T56 l1 x23_2).f0) ((rd_T56 l1 x23_2).f1) ((rd_T56 l1 x23_2).f2) false _ ?side1 ?side2 A24.out).mono ?_);(case side1=>exact Kd.C_below HR0_1.out (by repeat (first|(with_reducible first|exact HB.out|apply below_alloc|apply pw_below_drewN|apply below_drew1|refine below_set ?_ GE614.out|refine below_set ?_ GE620.out)|exact HB.out)));(case side2=>exact HC0_1.out);rintro e w34 ⟨rfl,hb⟩;refine ⟨_,rfl,?_⟩;have n0_:=Aside0.mk (Kd.R_below (by (with_reducible repeat (first|apply Kd.R_alloc|apply Kd.R_drewN|apply Kd.R_drew));exact (Kd.R_mono (Kd.R_far (p:=⟨gb620,2,none⟩) (Kd.R_far (p:=⟨gb620,1,none⟩) (Kd.R_far (p:=⟨gb620,0,none⟩) (Kd.R_types HO_5.out BK620.out (by decide)) (fun _ hk=>hk.2) (.int .i64 ((rd_T56 l1 x23_2).f0))) (fun _ hk=>hk.2) (.int .i64 ((rd_T56 l1 x23_2).f1))) (fun _ hk=>hk.2) (.int .i64 ((rd_T56 l1 x23_2).f2))) (fun _ h_=>h_.1))) hb);have n1_:=Aside0.mk (Kd.S_below (by (with_reducible repeat (first|apply Kd.S_alloc|apply Kd.S_drewN|apply Kd.S_drew));exact (Kd.S_mono (Kd.S_far (p:=⟨gb620,2,none⟩) (Kd.S_far (p:=⟨gb620,1,none⟩) (Kd.S_far (p:=⟨gb620,0,none⟩) (Kd.S_types HO_6.out BK620.out (by decide)) (fun _ hk=>hk.2) (.int .i64 ((rd_T56 l1 x23_2).f0))) (fun _ hk=>hk.2) (.int .i64 ((rd_T56 l1 x23_2).f1))) (fun _ hk=>hk.2) (.int .i64 ((rd_T56 l1 x23_2).f2))) (fun _ h_=>h_.1))) hb);have n2_:=Aside0.mk (blk_below (g:=gb614) (o:=.cells #[.int .i64 a0_0,.slice A0_1 l0_1.length c0_1] 30 (0,0)) (by (with_reducible repeat (first|refine blk_drewN ?_ _|refine blk_drew ?_|refine blk_alloc ?_ _));refine blk_far ?_ NB614_620.out _;(with_reducible repeat (first|refine blk_drewN ?_ _|refine blk_drew ?_|refine blk_alloc ?_ _));refine blk_far ?_ NB614_620.out _;(with_reducible repeat (first|refine blk_drewN ?_ _|refine blk_drew ?_|refine blk_alloc ?_ _));refine blk_far ?_ NB614_620.out _;(with_reducible repeat (first|refine blk_drewN ?_ _|refine blk_drew ?_|refine blk_alloc ?_ _));exact BK614.out) hb);have n3_:=Aside0.mk (blk_below (g:=gb620) (o:=.cells #[.int .i64 ((rd_T56 l1 x23_2).f0),.int .i64 ((rd_T56 l1 x23_2).f1),.int .i64 ((rd_T56 l1 x23_2).f2)] 56 (0,0)) (by (with_reducible repeat (first|refine blk_drewN ?_ _|refine blk_drew ?_|refine blk_alloc ?_ _));refine blk_put (cs:=#[.int .i64 ((rd_T56 l1 x23_2).f0),.int .i64 ((rd_T56 l1 x23_2).f1),.int .i64 0]) ?_ 2 _ rfl;(with_reducible repeat (first|refine blk_drewN ?_ _|refine blk_drew ?_|refine blk_alloc ?_ _));refine blk_put (cs:=#[.int .i64 ((rd_T56 l1 x23_2).f0),.int .i64 0,.int .i64 0]) ?_ 1 _ rfl;(with_reducible repeat (first|refine blk_drewN ?_ _|refine blk_drew ?_|refine blk_alloc ?_ _));refine blk_put (cs:=#[.int .i64 0,.int .i64 0,.int .i64 0]) ?_ 0 _ rfl;(with_reducible repeat (first|refine blk_drewN ?_ _|refine blk_drew ?_|refine blk_alloc ?_ _));exact BK620.out) hb);have n4_:=Aside0.mk (below_step (by repeat (first|(with_reducible first|exact HB.out|apply below_alloc|apply pw_below_drewN|apply below_drew1|refine below_set ?_ GE614.out|refine below_set ?_ GE620.out)|exact HB.out)) hb);clear HO_5;clear HO_6;clear BK614;clear BK620;clear HB;have HO_5:=n0_;have HO_6:=n1_;have BK614:=n2_;have BK620:=n3_;have HB:=n4_;clear n0_ n1_ n2_ n3_ n4_;(try clear hb);(try clear hb2);(try clear hk);(try clear hi)))
           go_meet
           case rel=>exact ⟨_,(false),(by first|rfl|(simp;done)|(simp [*];done)),H',⟨by have:=HJ2.out;have:=HK2.out;first|omega|exact Nat.le_refl _⟩,⟨by exact HO_5.out⟩,⟨by exact HO_6.out⟩,⟨by exact BK614.out⟩,⟨by exact BK620.out⟩,⟨by exact HB.out⟩⟩
          case rest =>
           clear HC20
           try clear c1
           try clear c2
           try clear p2
           try clear c3
           try clear c5
           try clear c6
           try clear c6b0
           try clear c6b1
           try clear p6
           try clear q6
           try clear hx6
           try clear c11
           try clear c12
           try clear c12b0
           try clear c12b1
           try clear c13
           try clear c13b0
           try clear c13b1
           try clear c17
           try clear c17b0
           try clear c18
           try clear c18b0
           try clear c19
           try clear c19b0
           try clear c22
           try clear c25
           try clear c26
           try clear c31
           try clear hcz14_0
           try clear hcz14_1
           try clear hcz23_0
           try clear hcz23_1
           try clear hcz23_2
           try clear hcz27_0
           try clear hcz27_1
           try clear hcz28_0
           try clear hcz28_1
           try clear hcz28_2
           try clear hcz30_0
           try clear hcz30_1
           try clear hcz30_2
           try clear hcz32_0
           try clear hcz32_1
           try clear hcz33_0
           try clear hcz33_1
           try clear hcz33_2
           try clear hcz7_0
           try clear hcz7_1
           try clear hcz9_0
           try clear hcz9_1
           try clear hfz14_0
           try clear hfz14_1
           try clear hfz23_0
           try clear hfz23_1
           try clear hfz23_2
           try clear hfz27_0
           try clear hfz27_1
           try clear hfz28_0
           try clear hfz28_1
           try clear hfz28_2
           try clear hfz30_0
           try clear hfz30_1
           try clear hfz30_2
           try clear hfz32_0
           try clear hfz32_1
           try clear hfz33_0
           try clear hfz33_1
           try clear hfz33_2
           try clear hfz7_0
           try clear hfz7_1
           try clear hfz9_0
           try clear hfz9_1
           try clear hx619_0
           try clear hx619_1
           try clear hx619_2
           try clear p2
           try clear p619
           try clear q619
           obtain ⟨kq,x34_19,rfl,HA,HJ19,HO_5,HO_6,BK614,BK620,HB⟩:=hcut
           cases kq with
           | zero=>exact absurd HA.out (by simp [impl_Truth.j2])
           | succ kj19 =>
            have H:=HA.out
            clear HA
            simp only [impl_Truth.j2] at H
            by_cases c35:x34_19=true
            ·subst c35
             have H1:(if 0≤((rd_T56 l1 x23_2).f1) then (if ((rd_T56 l1 x23_2).f1)<(l0_1.length:Int) then (if ((rd_T88 l0_1 ((rd_T56 l1 x23_2).f1)).f0) ≥ 0 then (if 0≤((rd_T88 l0_1 ((rd_T56 l1 x23_2).f1)).f0) then (if ((rd_T88 l0_1 ((rd_T56 l1 x23_2).f1)).f0)<(x5_2.length:Int) then ((some (x5_2.set (((rd_T88 l0_1 ((rd_T56 l1 x23_2).f1)).f0):Int).toNat (wrap64 ((rd x5_2 ((rd_T88 l0_1 ((rd_T56 l1 x23_2).f1)).f0)) - ((rd_T56 l1 x23_2).f2))):List Int)).bind fun y625=>(if ((rd_T88 l0_1 ((rd_T56 l1 x23_2).f1)).f1) ≥ 0 then (if 0≤((rd_T88 l0_1 ((rd_T56 l1 x23_2).f1)).f1) then (if ((rd_T88 l0_1 ((rd_T56 l1 x23_2).f1)).f1)<(x5_2.length:Int) then ((some (y625.set (((rd_T88 l0_1 ((rd_T56 l1 x23_2).f1)).f1):Int).toNat (wrap64 ((rd y625 ((rd_T88 l0_1 ((rd_T56 l1 x23_2).f1)).f1))+((rd_T56 l1 x23_2).f2))):List Int)).bind fun y627=>((slices_Clone_int_int.f y627).bind fun t628=>(if x6_2.length<5864062014805 then (impl_Truth.l0 kj19 y627 (x6_2 ++ [t628]) l1 (l1.length:Int) (wrap64 (x23_2+1)) a0_0 l0_1) else (none)))) else (none)) else (none)) else ((slices_Clone_int_int.f y625).bind fun t634=>(if x6_2.length<5864062014805 then (impl_Truth.l0 kj19 y625 (x6_2 ++ [t634]) l1 (l1.length:Int) (wrap64 (x23_2+1)) a0_0 l0_1) else (none))))) else (none)) else (none)) else (if ((rd_T88 l0_1 ((rd_T56 l1 x23_2).f1)).f1) ≥ 0 then (if 0≤((rd_T88 l0_1 ((rd_T56 l1 x23_2).f1)).f1) then (if ((rd_T88 l0_1 ((rd_T56 l1 x23_2).f1)).f1)<(x5_2.length:Int) then ((some (x5_2.set (((rd_T88 l0_1 ((rd_T56 l1 x23_2).f1)).f1):Int).toNat (wrap64 ((rd x5_2 ((rd_T88 l0_1 ((rd_T56 l1 x23_2).f1)).f1))+((rd_T56 l1 x23_2).f2))):List Int)).bind fun y641=>((slices_Clone_int_int.f y641).bind fun t642=>(if x6_2.length<5864062014805 then (impl_Truth.l0 kj19 y641 (x6_2 ++ [t642]) l1 (l1.length:Int) (wrap64 (x23_2+1)) a0_0 l0_1) else (none)))) else (none)) else (none)) else ((slices_Clone_int_int.f x5_2).bind fun t648=>(if x6_2.length<5864062014805 then (impl_Truth.l0 kj19 x5_2 (x6_2 ++ [t648]) l1 (l1.length:Int) (wrap64 (x23_2+1)) a0_0 l0_1) else (none))))) else (none)) else (none))=some r:=by rw [if_pos rfl] at H;exact H
             clear H
             have H:=H1
             clear H1
             by_cases c36:0≤((rd_T56 l1 x23_2).f1)
             ·rw [if_pos c36] at H
              have c36b0:decide (0≤((rd_T56 l1 x23_2).f1))=true:=decide_eq_true c36
              clear c36
              by_cases c37:((rd_T56 l1 x23_2).f1)<(l0_1.length:Int)
              ·rw [if_pos c37] at H
               have c37b0:decide (((rd_T56 l1 x23_2).f1)<(l0_1.length:Int))=true:=decide_eq_true c37
               clear c37
               by_cases c38:((rd_T88 l0_1 ((rd_T56 l1 x23_2).f1)).f0) ≥ 0
               ·rw [if_pos c38] at H
                have c38b0:decide (0≤((rd_T88 l0_1 ((rd_T56 l1 x23_2).f1)).f0))=true:=decide_eq_true c38
                clear c38
                by_cases c39:0≤((rd_T88 l0_1 ((rd_T56 l1 x23_2).f1)).f0)
                ·rw [if_pos c39] at H
                 have c39b0:decide (0≤((rd_T88 l0_1 ((rd_T56 l1 x23_2).f1)).f0))=true:=decide_eq_true c39
                 clear c39
                 by_cases c40:((rd_T88 l0_1 ((rd_T56 l1 x23_2).f1)).f0)<(x5_2.length:Int)
                 ·rw [if_pos c40] at H
                  have c40b0:decide (((rd_T88 l0_1 ((rd_T56 l1 x23_2).f1)).f0)<(x5_2.length:Int))=true:=decide_eq_true c40
                  clear c40
                  obtain ⟨y625,hy625⟩:∃ y_:List Int,y_=(x5_2.set (((rd_T88 l0_1 ((rd_T56 l1 x23_2).f1)).f0):Int).toNat (wrap64 ((rd x5_2 ((rd_T88 l0_1 ((rd_T56 l1 x23_2).f1)).f0)) - ((rd_T56 l1 x23_2).f2)))):=⟨_,rfl⟩
                  replace H:(if ((rd_T88 l0_1 ((rd_T56 l1 x23_2).f1)).f1) ≥ 0 then (if 0≤((rd_T88 l0_1 ((rd_T56 l1 x23_2).f1)).f1) then (if ((rd_T88 l0_1 ((rd_T56 l1 x23_2).f1)).f1)<(x5_2.length:Int) then ((some (y625.set (((rd_T88 l0_1 ((rd_T56 l1 x23_2).f1)).f1):Int).toNat (wrap64 ((rd y625 ((rd_T88 l0_1 ((rd_T56 l1 x23_2).f1)).f1))+((rd_T56 l1 x23_2).f2))):List Int)).bind fun y627=>((slices_Clone_int_int.f y627).bind fun t628=>(if x6_2.length<5864062014805 then (impl_Truth.l0 kj19 y627 (x6_2 ++ [t628]) l1 (l1.length:Int) (wrap64 (x23_2+1)) a0_0 l0_1) else (none)))) else (none)) else (none)) else ((slices_Clone_int_int.f y625).bind fun t634=>(if x6_2.length<5864062014805 then (impl_Truth.l0 kj19 y625 (x6_2 ++ [t634]) l1 (l1.length:Int) (wrap64 (x23_2+1)) a0_0 l0_1) else (none))))=some r:=by first|(rw [hy625];with_reducible exact H)|(have H2_:=(Option.bind_some _ _).symm.trans H;rw [hy625];with_reducible exact H2_)|(have H2_:=(Option.bind_some _ _).symm.trans H;with_reducible exact H2_)|with_reducible exact H|(rw [hy625];exact H)|exact H
                  have Ny625:=Aside0.mk hy625
                  clear hy625
                  by_cases c42:((rd_T88 l0_1 ((rd_T56 l1 x23_2).f1)).f1) ≥ 0
                  ·rw [if_pos c42] at H
                   have c42b0:decide (0≤((rd_T88 l0_1 ((rd_T56 l1 x23_2).f1)).f1))=true:=decide_eq_true c42
                   clear c42
                   by_cases c43:0≤((rd_T88 l0_1 ((rd_T56 l1 x23_2).f1)).f1)
                   ·rw [if_pos c43] at H
                    have c43b0:decide (0≤((rd_T88 l0_1 ((rd_T56 l1 x23_2).f1)).f1))=true:=decide_eq_true c43
                    clear c43
                    by_cases c44:((rd_T88 l0_1 ((rd_T56 l1 x23_2).f1)).f1)<(x5_2.length:Int)
                    ·rw [if_pos c44] at H
                     have c44b0:decide (((rd_T88 l0_1 ((rd_T56 l1 x23_2).f1)).f1)<(x5_2.length:Int))=true:=decide_eq_true c44
                     clear c44
                     obtain ⟨y627,hy627⟩:∃ y_:List Int,y_=(y625.set (((rd_T88 l0_1 ((rd_T56 l1 x23_2).f1)).f1):Int).toNat (wrap64 ((rd y625 ((rd_T88 l0_1 ((rd_T56 l1 x23_2).f1)).f1))+((rd_T56 l1 x23_2).f2)))):=⟨_,rfl⟩
                     replace H:((slices_Clone_int_int.f y627).bind fun t628=>(if x6_2.length<5864062014805 then (impl_Truth.l0 kj19 y627 (x6_2 ++ [t628]) l1 (l1.length:Int) (wrap64 (x23_2+1)) a0_0 l0_1) else (none)))=some r:=by first|(rw [hy627];with_reducible exact H)|(have H2_:=(Option.bind_some _ _).symm.trans H;rw [hy627];with_reducible exact H2_)|(have H2_:=(Option.bind_some _ _).symm.trans H;with_reducible exact H2_)|with_reducible exact H|(rw [hy627];exact H)|exact H
                     have Ny627:=Aside0.mk hy627
                     clear hy627
                     replace H:=Option.bind_eq_some_iff.mp H
                     obtain ⟨t628,A460,H⟩:=H
                     replace H:(if x6_2.length<5864062014805 then (impl_Truth.l0 kj19 y627 (x6_2 ++ [t628]) l1 (l1.length:Int) (wrap64 (x23_2+1)) a0_0 l0_1) else (none))=some r:=H
                     have A46:=Aside0.mk A460
                     clear A460
                     by_cases c47:x6_2.length<5864062014805
                     ·rw [if_pos c47] at H
                      have LMc47:=Aside0.mk c47
                      clear c47
                      obtain ⟨y631,hy631⟩:∃ y_:List (List Int),y_=(x6_2 ++ [t628]):=⟨_,rfl⟩
                      replace H:(impl_Truth.l0 kj19 y627 y631 l1 (l1.length:Int) (wrap64 (x23_2+1)) a0_0 l0_1)=some r:=by first|(rw [hy631];with_reducible exact H)|(have H2_:=(Option.bind_some _ _).symm.trans H;rw [hy631];with_reducible exact H2_)|(have H2_:=(Option.bind_some _ _).symm.trans H;with_reducible exact H2_)|with_reducible exact H|(rw [hy631];exact H)|exact H
                      have Ny631:=Aside0.mk hy631
                      clear hy631
                      have H':=Aside0.mk H
                      clear H
                      have hnb48:=NB614_620.out
                      have hnc48:=NB620_614.out
                      have hcz49_0:wc.cell? ⟨gb614,0,none⟩=some (.int .i64 a0_0):=(blk_cell BK614.out 0).trans rfl
                      have hcz49_1:wc.cell? ⟨gb614,1,none⟩=some (.slice A0_1 l0_1.length c0_1):=(blk_cell BK614.out 1).trans rfl
                      have hfz49_0:=blk_frozen BK614.out 0
                      have hfz49_1:=blk_frozen BK614.out 1
                      have hcz50_0:wc.cell? ⟨gb620,0,none⟩=some (.int .i64 ((rd_T56 l1 x23_2).f0)):=(blk_cell BK620.out 0).trans rfl
                      have hcz50_1:wc.cell? ⟨gb620,1,none⟩=some (.int .i64 ((rd_T56 l1 x23_2).f1)):=(blk_cell BK620.out 1).trans rfl
                      have hcz50_2:wc.cell? ⟨gb620,2,none⟩=some (.int .i64 ((rd_T56 l1 x23_2).f2)):=(blk_cell BK620.out 2).trans rfl
                      have hfz50_0:=blk_frozen BK620.out 0
                      have hfz50_1:=blk_frozen BK620.out 1
                      have hfz50_2:=blk_frozen BK620.out 2
                      have p622:0≤(((rd_T56 l1 x23_2).f1):Int):=of_decide_eq_true (by first|(with_reducible assumption)|assumption)
                      have q622:((rd_T56 l1 x23_2).f1)<(l0_1.length:Int):=of_decide_eq_true (by first|(with_reducible assumption)|assumption)
                      obtain ⟨ad622,e622,hx622_0,hx622_1⟩:=at_T88 HR0_1.out ((rd_T56 l1 x23_2).f1) p622 q622
                      cases e622
                      replace hx622_0:=(HB.out.cell (World.block_lt_of_cell? w _ hx622_0)).trans hx622_0
                      replace hx622_1:=(HB.out.cell (World.block_lt_of_cell? w _ hx622_1)).trans hx622_1
                      replace p622:=eq_true p622
                      replace q622:=eq_true q622
                      try go_wp2_with (first|((with_reducible refine gate_dst (N:=9) rfl ?_);(try (refine gate_guard (by rfl) ?_;dsimp only));refine box_event ?hg (N:=9) ?hd (cs:=#[.int .i64 0,.int .i64 0]) (t:=88) ?hr ?_;(case hd=>rfl);(case hg=>rfl);(case hr=>first|(go_simp;done)|(go_simp;rfl));intro gb623 hg w51 hbox hb;have n0_:=Aside0.mk (Kd.R_below (by exact HO_5.out) hb);have n1_:=Aside0.mk (Kd.S_below (by exact HO_6.out) hb);have n2_:=Aside0.mk (blk_below (g:=gb614) (o:=.cells #[.int .i64 a0_0,.slice (some ad622) l0_1.length c0_1] 30 (0,0)) (by exact BK614.out) hb);have n3_:=Aside0.mk (blk_below (g:=gb620) (o:=.cells #[.int .i64 ((rd_T56 l1 x23_2).f0),.int .i64 ((rd_T56 l1 x23_2).f1),.int .i64 ((rd_T56 l1 x23_2).f2)] 56 (0,0)) (by exact BK620.out) hb);have n4_:=Aside0.mk (below_step (by exact HB.out) hb);have n5_:=Aside0.mk (hbox);have n6_:=Aside0.mk ((by rw [hg];exact (below_size (by exact HB.out)):w.heap.size≤gb623));have n7_:=Aside0.mk ((by rw [hg];exact (below_size (by exact HB.out)):w.heap.size≤gb623));have n8_:=Aside0.mk ((by rw [hg];exact Nat.ne_of_lt (blk_lt (g:=gb614) (o:=.cells #[.int .i64 a0_0,.slice (some ad622) l0_1.length c0_1] 30 (0,0)) (by exact BK614.out)):gb614 ≠ gb623));have n9_:=Aside0.mk ((by rw [hg];exact Nat.ne_of_gt (blk_lt (g:=gb614) (o:=.cells #[.int .i64 a0_0,.slice (some ad622) l0_1.length c0_1] 30 (0,0)) (by exact BK614.out)):gb623 ≠ gb614));have n10_:=Aside0.mk ((by rw [hg];exact Nat.ne_of_lt (blk_lt (g:=gb620) (o:=.cells #[.int .i64 ((rd_T56 l1 x23_2).f0),.int .i64 ((rd_T56 l1 x23_2).f1),.int .i64 ((rd_T56 l1 x23_2).f2)] 56 (0,0)) (by exact BK620.out)):gb620 ≠ gb623));have n11_:=Aside0.mk ((by rw [hg];exact Nat.ne_of_gt (blk_lt (g:=gb620) (o:=.cells #[.int .i64 ((rd_T56 l1 x23_2).f0),.int .i64 ((rd_T56 l1 x23_2).f1),.int .i64 ((rd_T56 l1 x23_2).f2)] 56 (0,0)) (by exact BK620.out)):gb623 ≠ gb620));clear HO_5;clear HO_6;clear BK614;clear BK620;clear HB;have HO_5:=n0_;have HO_6:=n1_;have BK614:=n2_;have BK620:=n3_;have HB:=n4_;have BK623:=n5_;have GW623:=n6_;have GE623:=n7_;have NB614_623:=n8_;have NB623_614:=n9_;have NB620_623:=n10_;have NB623_620:=n11_;clear n0_ n1_ n2_ n3_ n4_ n5_ n6_ n7_ n8_ n9_ n10_ n11_;clear hb hbox hg;have hnb52:=NB623_614.out;have hnc52:=NB614_623.out;have hnb53:=NB623_620.out;have hnc53:=NB620_623.out;have hcz54_0:w51.cell? ⟨gb623,0,none⟩=some (.int .i64 0):=(blk_cell BK623.out 0).trans rfl;have hcz54_1:w51.cell? ⟨gb623,1,none⟩=some (.int .i64 0):=(blk_cell BK623.out 1).trans rfl;have hfz54_0:=blk_frozen BK623.out 0;have hfz54_1:=blk_frozen BK623.out 1))
                      have n0_:Aside0 (Kd.R (Kd.int .i64) 3 ((w51.setCell ⟨gb623,0,none⟩ (.int .i64 ((rd_T88 l0_1 ((rd_T56 l1 x23_2).f1)).f0))).setCell ⟨gb623,1,none⟩ (.int .i64 ((rd_T88 l0_1 ((rd_T56 l1 x23_2).f1)).f1))) w.heap.size (fun _=>True) v617 x5_2):=⟨by exact Kd.R_mono (Kd.R_far (p:=⟨gb623,1,none⟩) (Kd.R_far (p:=⟨gb623,0,none⟩) (Kd.R_types HO_5.out BK623.out (by decide)) (fun _ hk=>hk.2) (.int .i64 ((rd_T88 l0_1 ((rd_T56 l1 x23_2).f1)).f0))) (fun _ hk=>hk.2) (.int .i64 ((rd_T88 l0_1 ((rd_T56 l1 x23_2).f1)).f1))) (fun _ hk=>trivial)⟩
                      have n1_:Aside0 (Kd.S (Kd.slice 3 (Kd.int .i64)) 59 ((w51.setCell ⟨gb623,0,none⟩ (.int .i64 ((rd_T88 l0_1 ((rd_T56 l1 x23_2).f1)).f0))).setCell ⟨gb623,1,none⟩ (.int .i64 ((rd_T88 l0_1 ((rd_T56 l1 x23_2).f1)).f1))) w.heap.size (fun k_=>some k_ ≠ (v617:Value).ownBlock) u6 x6_2):=⟨by exact Kd.S_mono (Kd.S_far (p:=⟨gb623,1,none⟩) (Kd.S_far (p:=⟨gb623,0,none⟩) (Kd.S_types HO_6.out BK623.out (by decide)) (fun _ hk=>hk.2) (.int .i64 ((rd_T88 l0_1 ((rd_T56 l1 x23_2).f1)).f0))) (fun _ hk=>hk.2) (.int .i64 ((rd_T88 l0_1 ((rd_T56 l1 x23_2).f1)).f1))) (fun _ hk=>hk.1)⟩
                      have n2_:Aside0 (((w51.setCell ⟨gb623,0,none⟩ (.int .i64 ((rd_T88 l0_1 ((rd_T56 l1 x23_2).f1)).f0))).setCell ⟨gb623,1,none⟩ (.int .i64 ((rd_T88 l0_1 ((rd_T56 l1 x23_2).f1)).f1))).heap[gb614]?=some (.cells #[.int .i64 a0_0,.slice (some ad622) l0_1.length c0_1] 30 (0,0))):=⟨by refine blk_far ?_ NB614_623.out _;refine blk_far ?_ NB614_623.out _;exact BK614.out⟩
                      have n3_:Aside0 (((w51.setCell ⟨gb623,0,none⟩ (.int .i64 ((rd_T88 l0_1 ((rd_T56 l1 x23_2).f1)).f0))).setCell ⟨gb623,1,none⟩ (.int .i64 ((rd_T88 l0_1 ((rd_T56 l1 x23_2).f1)).f1))).heap[gb620]?=some (.cells #[.int .i64 ((rd_T56 l1 x23_2).f0),.int .i64 ((rd_T56 l1 x23_2).f1),.int .i64 ((rd_T56 l1 x23_2).f2)] 56 (0,0))):=⟨by refine blk_far ?_ NB620_623.out _;refine blk_far ?_ NB620_623.out _;exact BK620.out⟩
                      have n4_:Aside0 (((w51.setCell ⟨gb623,0,none⟩ (.int .i64 ((rd_T88 l0_1 ((rd_T56 l1 x23_2).f1)).f0))).setCell ⟨gb623,1,none⟩ (.int .i64 ((rd_T88 l0_1 ((rd_T56 l1 x23_2).f1)).f1))).heap[gb623]?=some (.cells #[.int .i64 ((rd_T88 l0_1 ((rd_T56 l1 x23_2).f1)).f0),.int .i64 ((rd_T88 l0_1 ((rd_T56 l1 x23_2).f1)).f1)] 88 (0,0))):=⟨by refine blk_put (cs:=#[.int .i64 ((rd_T88 l0_1 ((rd_T56 l1 x23_2).f1)).f0),.int .i64 0]) ?_ 1 _ rfl;refine blk_put (cs:=#[.int .i64 0,.int .i64 0]) ?_ 0 _ rfl;exact BK623.out⟩
                      have n5_:Aside0 (Below w.heap.size w ((w51.setCell ⟨gb623,0,none⟩ (.int .i64 ((rd_T88 l0_1 ((rd_T56 l1 x23_2).f1)).f0))).setCell ⟨gb623,1,none⟩ (.int .i64 ((rd_T88 l0_1 ((rd_T56 l1 x23_2).f1)).f1)))):=⟨by repeat (first|(with_reducible first|exact HB.out|apply below_alloc|apply pw_below_drewN|apply below_drew1|refine below_set ?_ GE614.out|refine below_set ?_ GE620.out|refine below_set ?_ GE623.out)|exact HB.out)⟩
                      (try clear HO_5)
                      (try clear HO_6)
                      (try clear BK614)
                      (try clear BK620)
                      (try clear BK623)
                      (try clear HB)
                      generalize ((w51.setCell ⟨gb623,0,none⟩ (.int .i64 ((rd_T88 l0_1 ((rd_T56 l1 x23_2).f1)).f0))).setCell ⟨gb623,1,none⟩ (.int .i64 ((rd_T88 l0_1 ((rd_T56 l1 x23_2).f1)).f1)))=w55 at n0_ n1_ n2_ n3_ n4_ n5_ ⊢
                      have HO_5:=n0_
                      have HO_6:=n1_
                      have BK614:=n2_
                      have BK620:=n3_
                      have BK623:=n4_
                      have HB:=n5_
                      clear n0_ n1_ n2_ n3_ n4_ n5_
                      have n0_:=Aside0.mk (Kd.R_drew HO_5.out)
                      have n1_:=Aside0.mk (Kd.S_drew HO_6.out)
                      have n2_:=Aside0.mk (blk_drew BK614.out)
                      have n3_:=Aside0.mk (blk_drew BK620.out)
                      have n4_:=Aside0.mk (blk_drew BK623.out)
                      have n5_:=Aside0.mk (below_drew1 HB.out)
                      clear HO_5
                      clear HO_6
                      clear BK614
                      clear BK620
                      clear BK623
                      clear HB
                      have HO_5:=n0_
                      have HO_6:=n1_
                      have BK614:=n2_
                      have BK620:=n3_
                      have BK623:=n4_
                      have HB:=n5_
                      clear n0_ n1_ n2_ n3_ n4_ n5_
                      obtain ⟨Ao57,co57,eo57⟩:=Kd.R_slice HO_5.out
                      (first|subst eo57|(injection eo57 with f1_ f2_ f3_;have f4_:=f1_.symm;have f5_:=f3_.symm;clear f1_ f2_ f3_;subst f4_;subst f5_))
                      have p624:0≤(((rd_T88 l0_1 ((rd_T56 l1 x23_2).f1)).f0):Int):=of_decide_eq_true (by first|(with_reducible assumption)|assumption)
                      have q624:((rd_T88 l0_1 ((rd_T56 l1 x23_2).f1)).f0)<(x5_2.length:Int):=of_decide_eq_true (by first|(with_reducible assumption)|assumption)
                      obtain ⟨ad624,e624,hx624_0⟩:=Kd.at_int (Kd.R_reads' HO_5.out).2.2 ((rd_T88 l0_1 ((rd_T56 l1 x23_2).f1)).f0) p624 q624
                      cases e624
                      replace p624:=eq_true p624
                      replace q624:=eq_true q624
                      have p41:0≤(((rd_T88 l0_1 ((rd_T56 l1 x23_2).f1)).f0):Int):=of_decide_eq_true (by first|(with_reducible assumption)|assumption)
                      have q41:(((rd_T88 l0_1 ((rd_T56 l1 x23_2).f1)).f0):Int)<((x5_2.length:Int):Int):=of_decide_eq_true (by first|(with_reducible assumption)|assumption)
                      obtain ⟨go41,co41,eo41,gb41,gl41,cl41,HG41⟩:=Kd.R_form HO_5.out (by omega)
                      (first|cases eo41|(injection eo41 with ea_ en_ ec_;(first|subst ea_|(injection ea_ with ea_;subst ea_));subst ec_;clear en_))
                      have GB41:=Aside0.mk gb41
                      have GG41:=Aside0.mk HG41
                      clear gb41 gl41 HG41
                      (first|simp only [add_plain] at hx624_0|skip)
                      obtain ⟨hx41_0,hf41_0⟩:=Kd.R_celln 0 HO_5.out (((rd_T88 l0_1 ((rd_T56 l1 x23_2).f1)).f0):Int) p41 q41
                      replace p41:=eq_true p41
                      replace q41:=eq_true q41
                      have HP58:=Kd.R_putn HO_5.out (((rd_T88 l0_1 ((rd_T56 l1 x23_2).f1)).f0):Int) (wrap64 ((rd x5_2 ((rd_T88 l0_1 ((rd_T56 l1 x23_2).f1)).f0)) - ((rd_T56 l1 x23_2).f2)))
                      rw [← Ny625.out] at HP58
                      have HQ58:=Aside0.mk HP58
                      clear HP58
                      refine start_ (n:=10) (S:=fun w'=>w'.cell? ⟨gb623,0,none⟩=some (.int .i64 ((rd_T88 l0_1 ((rd_T56 l1 x23_2).f1)).f0))∧w'.cell? ⟨gb623,1,none⟩=some (.int .i64 ((rd_T88 l0_1 ((rd_T56 l1 x23_2).f1)).f1))∧w'.cell? ⟨gb620,0,none⟩=some (.int .i64 ((rd_T56 l1 x23_2).f0))∧w'.cell? ⟨gb620,1,none⟩=some (.int .i64 ((rd_T56 l1 x23_2).f1))∧w'.cell? ⟨gb620,2,none⟩=some (.int .i64 ((rd_T56 l1 x23_2).f2))∧w'.cell? ⟨go41,(((rd_T88 l0_1 ((rd_T56 l1 x23_2).f1)).f0)).toNat,none⟩=some (.int .i64 (rd x5_2 ((rd_T88 l0_1 ((rd_T56 l1 x23_2).f1)).f0)))) (ds:=[9]) #[false,false,false,false,false,false,false,false,false,false] (by kernel_rfl) rfl rfl ⟨(blk_cell BK623.out 0).trans rfl,(blk_cell BK623.out 1).trans rfl,(blk_cell BK620.out 0).trans rfl,(blk_cell BK620.out 1).trans rfl,(blk_cell BK620.out 2).trans rfl,hx624_0⟩ (fun hHeld=>?_);refine with_tabW impl_Truth.tab11 impl_Truth.bits11 (fun HT_ HW_=>?_)
                      generalize w55.drew=w56 at HO_5 HO_6 BK614 BK620 BK623 HB GG41 HQ58 hf41_0 hx41_0 hx624_0 hHeld ⊢
                      refine pure_ (i:=0) (N:=some 44) (v:=?_) (a':=?_) #[true,false,false,false,false,false,false,false,false,false] rfl rfl (any_of HT_.out (by kernel_rfl)) (fun _ _ _ h=>h) (Or.inl ⟨by rfl,?_⟩) ?_ ?_
                      rotate_left
                      ·intro w'
                       go_simp
                       with_reducible rfl
                      rotate_left
                      ·simp only [Act.put,List.setIfInBounds_toArray,List.set_cons_zero,List.set_cons_succ,i64_w,i32_w]
                       rfl
                      refine pure_ (i:=1) (N:=some 45) (v:=?_) (a':=?_) #[true,true,false,false,false,false,false,false,false,false] rfl rfl (any_of HT_.out (by kernel_rfl)) (fun _ _ _ h=>h) (Or.inl ⟨by rfl,?_⟩) ?_ ?_
                      rotate_left
                      ·intro w'
                       go_simp
                       with_reducible rfl
                      rotate_left
                      ·simp only [Act.put,List.setIfInBounds_toArray,List.set_cons_zero,List.set_cons_succ,i64_w,i32_w]
                       rfl
                      refine pure_ (i:=5) (N:=some 49) (v:=?_) (a':=?_) #[true,true,false,false,false,true,false,false,false,false] rfl rfl (any_of HT_.out (by kernel_rfl)) (fun _ _ _ h=>h) (Or.inl ⟨by rfl,?_⟩) ?_ ?_
                      rotate_left
                      ·intro w'
                       go_simp
                       with_reducible rfl
                      rotate_left
                      ·simp only [Act.put,List.setIfInBounds_toArray,List.set_cons_zero,List.set_cons_succ,i64_w,i32_w]
                       rfl
                      refine take_ (i:=2) (N:=some 46) (v:=?_) (a':=?_) #[true,true,true,false,false,true,false,false,false,false] rfl rfl (take_ofW HT_.out HW_.out (by kernel_rfl)) (fun _ _ _ h=>h) (Or.inl ⟨by rfl,?_⟩) hHeld ?_ ?_
                      rotate_left
                      ·rintro w' ⟨s0,s1,s2,s3,s4,s5⟩
                       go_simp
                       with_reducible rfl
                      rotate_left
                      ·simp only [Act.put,List.setIfInBounds_toArray,List.set_cons_zero,List.set_cons_succ,i64_w,i32_w]
                       rfl
                      refine pure_ (i:=3) (N:=some 47) (v:=?_) (a':=?_) #[true,true,true,true,false,true,false,false,false,false] rfl rfl (any_of HT_.out (by kernel_rfl)) (fun _ _ _ h=>h) (Or.inl ⟨by rfl,?_⟩) ?_ ?_
                      rotate_left
                      ·intro w'
                       go_simp
                       with_reducible rfl
                      rotate_left
                      ·simp only [Act.put,List.setIfInBounds_toArray,List.set_cons_zero,List.set_cons_succ,i64_w,i32_w]
                       rfl
                      refine take_ (i:=4) (N:=some 48) (v:=?_) (a':=?_) #[true,true,true,true,true,true,false,false,false,false] rfl rfl (take_ofW HT_.out HW_.out (by kernel_rfl)) (fun _ _ _ h=>h) (Or.inl ⟨by rfl,?_⟩) hHeld ?_ ?_
                      rotate_left
                      ·rintro w' ⟨s0,s1,s2,s3,s4,s5⟩
                       go_simp
                       with_reducible rfl
                      rotate_left
                      ·simp only [Act.put,List.setIfInBounds_toArray,List.set_cons_zero,List.set_cons_succ,i64_w,i32_w]
                       rfl
                      refine take_ (i:=6) (N:=some 50) (v:=?_) (a':=?_) #[true,true,true,true,true,true,true,false,false,false] rfl rfl (take_ofW HT_.out HW_.out (by kernel_rfl)) (fun _ _ _ h=>h) (Or.inl ⟨by rfl,?_⟩) hHeld ?_ ?_
                      rotate_left
                      ·rintro w' ⟨s0,s1,s2,s3,s4,s5⟩
                       go_simp
                       with_reducible rfl
                      rotate_left
                      ·simp only [Act.put,List.setIfInBounds_toArray,List.set_cons_zero,List.set_cons_succ,i64_w,i32_w]
                       rfl
                      refine pure_ (i:=7) (N:=some 51) (v:=?_) (a':=?_) #[true,true,true,true,true,true,true,true,false,false] rfl rfl (any_of HT_.out (by kernel_rfl)) (fun _ _ _ h=>h) (Or.inl ⟨by rfl,?_⟩) ?_ ?_
                      rotate_left
                      ·intro w'
                       go_simp
                       with_reducible rfl
                      rotate_left
                      ·simp only [Act.put,List.setIfInBounds_toArray,List.set_cons_zero,List.set_cons_succ,i64_w,i32_w]
                       rfl
                      refine pure_ (i:=8) (N:=some 52) (v:=?_) (a':=?_) #[true,true,true,true,true,true,true,true,true,false] rfl rfl (any_of HT_.out (by kernel_rfl)) (fun _ _ _ h=>h) (Or.inl ⟨by rfl,?_⟩) ?_ ?_
                      rotate_left
                      ·intro w'
                       go_simp
                       with_reducible rfl
                      rotate_left
                      ·simp only [Act.put,List.setIfInBounds_toArray,List.set_cons_zero,List.set_cons_succ,i64_w,i32_w]
                       rfl
                      refine last_ (i:=9) (N:=none) #[true,true,true,true,true,true,true,true,true,true] rfl rfl (one_of HT_.out (by kernel_rfl)) (by decide) (fun K hK=>?_)
                      refine skip_ (w1:=?_) (by rfl) rfl ?_ ?_
                      rotate_left
                      ·go_simp
                       rfl
                      refine hK.out _ _ ?_
                      clear hK K
                      refine done_ (done_of HT_.out (by kernel_rfl)) ?_
                      have hnx_:gb623 ≠ go41:=(by have h_:=Kd.R_ne HO_5.out BK623.out (by decide);intro e_;exact h_ (by rw [e_];rfl))
                      have hny_:go41 ≠ gb623:=fun e_=>hnx_ e_.symm
                      have hcz59_0:w56.cell? ⟨gb623,0,none⟩=some (.int .i64 ((rd_T88 l0_1 ((rd_T56 l1 x23_2).f1)).f0)):=(blk_cell BK623.out 0).trans rfl
                      have hcz59_1:w56.cell? ⟨gb623,1,none⟩=some (.int .i64 ((rd_T88 l0_1 ((rd_T56 l1 x23_2).f1)).f1)):=(blk_cell BK623.out 1).trans rfl
                      have hfz59_0:=blk_frozen BK623.out 0
                      have hfz59_1:=blk_frozen BK623.out 1
                      try go_wp2
                      have n0_:Aside0 (Kd.R (Kd.int .i64) 3 (w56.setCell ⟨go41,(((rd_T88 l0_1 ((rd_T56 l1 x23_2).f1)).f0):Int).toNat,none⟩ (.int .i64 (wrap64 ((rd x5_2 ((rd_T88 l0_1 ((rd_T56 l1 x23_2).f1)).f0)) - ((rd_T56 l1 x23_2).f2))))) w.heap.size (fun _=>True) (.slice (some ⟨go41,0,none⟩) x5_2.length co57) y625):=⟨by exact HQ58.out⟩
                      have n1_:Aside0 (Kd.S (Kd.slice 3 (Kd.int .i64)) 59 (w56.setCell ⟨go41,(((rd_T88 l0_1 ((rd_T56 l1 x23_2).f1)).f0):Int).toNat,none⟩ (.int .i64 (wrap64 ((rd x5_2 ((rd_T88 l0_1 ((rd_T56 l1 x23_2).f1)).f0)) - ((rd_T56 l1 x23_2).f2))))) w.heap.size (fun k_=>some k_ ≠ (.slice (some ⟨go41,0,none⟩) x5_2.length co57:Value).ownBlock) u6 x6_2):=⟨by exact Kd.S_mono (Kd.S_far (p:=⟨go41,(((rd_T88 l0_1 ((rd_T56 l1 x23_2).f1)).f0):Int).toNat,none⟩) (Kd.S_mono HO_6.out (fun k_ hk=>(⟨hk,fun e_=>hk (by rw [e_];rfl)⟩:_∧k_ ≠ go41))) (fun _ hk=>hk.2) (.int .i64 (wrap64 ((rd x5_2 ((rd_T88 l0_1 ((rd_T56 l1 x23_2).f1)).f0)) - ((rd_T56 l1 x23_2).f2))))) (fun _ hk=>hk.1)⟩
                      have n2_:Aside0 ((w56.setCell ⟨go41,(((rd_T88 l0_1 ((rd_T56 l1 x23_2).f1)).f0):Int).toNat,none⟩ (.int .i64 (wrap64 ((rd x5_2 ((rd_T88 l0_1 ((rd_T56 l1 x23_2).f1)).f0)) - ((rd_T56 l1 x23_2).f2))))).heap[gb614]?=some (.cells #[.int .i64 a0_0,.slice (some ad622) l0_1.length c0_1] 30 (0,0))):=⟨by refine blk_far ?_ (by have h_:=Kd.R_ne HO_5.out BK614.out (by decide);intro e_;exact h_ (by rw [e_];rfl)) _;exact BK614.out⟩
                      have n3_:Aside0 ((w56.setCell ⟨go41,(((rd_T88 l0_1 ((rd_T56 l1 x23_2).f1)).f0):Int).toNat,none⟩ (.int .i64 (wrap64 ((rd x5_2 ((rd_T88 l0_1 ((rd_T56 l1 x23_2).f1)).f0)) - ((rd_T56 l1 x23_2).f2))))).heap[gb620]?=some (.cells #[.int .i64 ((rd_T56 l1 x23_2).f0),.int .i64 ((rd_T56 l1 x23_2).f1),.int .i64 ((rd_T56 l1 x23_2).f2)] 56 (0,0))):=⟨by (with_reducible repeat (first|refine blk_drewN ?_ _|refine blk_drew ?_|refine blk_alloc ?_ _));refine blk_far ?_ (by have h_:=Kd.R_ne HO_5.out BK620.out (by decide);intro e_;exact h_ (by rw [e_];rfl)) _;(with_reducible repeat (first|refine blk_drewN ?_ _|refine blk_drew ?_|refine blk_alloc ?_ _));exact BK620.out⟩
                      have n4_:Aside0 ((w56.setCell ⟨go41,(((rd_T88 l0_1 ((rd_T56 l1 x23_2).f1)).f0):Int).toNat,none⟩ (.int .i64 (wrap64 ((rd x5_2 ((rd_T88 l0_1 ((rd_T56 l1 x23_2).f1)).f0)) - ((rd_T56 l1 x23_2).f2))))).heap[gb623]?=some (.cells #[.int .i64 ((rd_T88 l0_1 ((rd_T56 l1 x23_2).f1)).f0),.int .i64 ((rd_T88 l0_1 ((rd_T56 l1 x23_2).f1)).f1)] 88 (0,0))):=⟨by (with_reducible repeat (first|refine blk_drewN ?_ _|refine blk_drew ?_|refine blk_alloc ?_ _));refine blk_far ?_ (by have h_:=Kd.R_ne HO_5.out BK623.out (by decide);intro e_;exact h_ (by rw [e_];rfl)) _;(with_reducible repeat (first|refine blk_drewN ?_ _|refine blk_drew ?_|refine blk_alloc ?_ _));exact BK623.out⟩
                      have n5_:Aside0 (Below w.heap.size w (w56.setCell ⟨go41,(((rd_T88 l0_1 ((rd_T56 l1 x23_2).f1)).f0):Int).toNat,none⟩ (.int .i64 (wrap64 ((rd x5_2 ((rd_T88 l0_1 ((rd_T56 l1 x23_2).f1)).f0)) - ((rd_T56 l1 x23_2).f2)))))):=⟨by repeat (first|(with_reducible first|exact HB.out|apply below_alloc|apply pw_below_drewN|apply below_drew1|refine below_set ?_ GB41.out|refine below_set ?_ GE614.out|refine below_set ?_ GE620.out|refine below_set ?_ GE623.out)|exact HB.out)⟩
                      (try clear HO_5)
                      (try clear HO_6)
                      (try clear BK614)
                      (try clear BK620)
                      (try clear BK623)
                      (try clear HB)
                      generalize (w56.setCell ⟨go41,(((rd_T88 l0_1 ((rd_T56 l1 x23_2).f1)).f0):Int).toNat,none⟩ (.int .i64 (wrap64 ((rd x5_2 ((rd_T88 l0_1 ((rd_T56 l1 x23_2).f1)).f0)) - ((rd_T56 l1 x23_2).f2)))))=w60 at n0_ n1_ n2_ n3_ n4_ n5_ ⊢
                      have HO_5:=n0_
                      have HO_6:=n1_
                      have BK614:=n2_
                      have BK620:=n3_
                      have BK623:=n4_
                      have HB:=n5_
                      clear n0_ n1_ n2_ n3_ n4_ n5_
                      have n0_:=Aside0.mk (Kd.R_drew HO_5.out)
                      have n1_:=Aside0.mk (Kd.S_drew HO_6.out)
                      have n2_:=Aside0.mk (blk_drew BK614.out)
                      have n3_:=Aside0.mk (blk_drew BK620.out)
                      have n4_:=Aside0.mk (blk_drew BK623.out)
                      have n5_:=Aside0.mk (below_drew1 HB.out)
                      clear HO_5
                      clear HO_6
                      clear BK614
                      clear BK620
                      clear BK623
                      clear HB
                      have HO_5:=n0_
                      have HO_6:=n1_
                      have BK614:=n2_
                      have BK620:=n3_
                      have BK623:=n4_
                      have HB:=n5_
                      clear n0_ n1_ n2_ n3_ n4_ n5_
                      have p626:0≤(((rd_T88 l0_1 ((rd_T56 l1 x23_2).f1)).f1):Int):=of_decide_eq_true (by first|(with_reducible assumption)|assumption)
                      have q626:((rd_T88 l0_1 ((rd_T56 l1 x23_2).f1)).f1)<(y625.length:Int):=(by have h_:(((rd_T88 l0_1 ((rd_T56 l1 x23_2).f1)).f1):Int)<((x5_2.length:Int):Int):=of_decide_eq_true (by first|(with_reducible assumption)|assumption);first|(have e_:=(Kd.R_reads' HO_5.out).1;omega)|simpa only [Ny625.out,List.length_set] using h_)
                      have ql626:((((rd_T88 l0_1 ((rd_T56 l1 x23_2).f1)).f1):Int)<((x5_2.length:Int):Int))=True:=eq_true (of_decide_eq_true (by first|(with_reducible assumption)|assumption))
                      obtain ⟨ad626,e626,hx626_0⟩:=Kd.at_int (Kd.R_reads' HO_5.out).2.2 ((rd_T88 l0_1 ((rd_T56 l1 x23_2).f1)).f1) p626 q626
                      obtain rfl:(⟨go41,0,none⟩:Addr)=ad626:=(by injection e626)
                      (first|simp only [add_plain] at hx626_0|simp only [add_at] at hx626_0|simp only [Addr.add,Nat.zero_add] at hx626_0|skip)
                      replace p626:=eq_true p626
                      replace q626:=eq_true q626
                      have p45:0≤(((rd_T88 l0_1 ((rd_T56 l1 x23_2).f1)).f1):Int):=of_decide_eq_true (by first|(with_reducible assumption)|assumption)
                      have q45:(((rd_T88 l0_1 ((rd_T56 l1 x23_2).f1)).f1):Int)<((x5_2.length:Int):Int):=of_decide_eq_true (by first|(with_reducible assumption)|assumption)
                      obtain ⟨hx45_0,hf45_0⟩:=Kd.R_celln 0 HO_5.out (((rd_T88 l0_1 ((rd_T56 l1 x23_2).f1)).f1):Int) p45 q45
                      replace p45:=eq_true p45
                      replace q45:=eq_true q45
                      have HP62:=Kd.R_putn HO_5.out (((rd_T88 l0_1 ((rd_T56 l1 x23_2).f1)).f1):Int) (wrap64 ((rd y625 ((rd_T88 l0_1 ((rd_T56 l1 x23_2).f1)).f1))+((rd_T56 l1 x23_2).f2)))
                      rw [← Ny627.out] at HP62
                      have HQ62:=Aside0.mk HP62
                      clear HP62
                      refine start_ (n:=10) (S:=fun w'=>w'.cell? ⟨gb623,0,none⟩=some (.int .i64 ((rd_T88 l0_1 ((rd_T56 l1 x23_2).f1)).f0))∧w'.cell? ⟨gb623,1,none⟩=some (.int .i64 ((rd_T88 l0_1 ((rd_T56 l1 x23_2).f1)).f1))∧w'.cell? ⟨gb620,0,none⟩=some (.int .i64 ((rd_T56 l1 x23_2).f0))∧w'.cell? ⟨gb620,1,none⟩=some (.int .i64 ((rd_T56 l1 x23_2).f1))∧w'.cell? ⟨gb620,2,none⟩=some (.int .i64 ((rd_T56 l1 x23_2).f2))∧w'.cell? ⟨go41,(((rd_T88 l0_1 ((rd_T56 l1 x23_2).f1)).f1)).toNat,none⟩=some (.int .i64 (rd y625 ((rd_T88 l0_1 ((rd_T56 l1 x23_2).f1)).f1)))) (ds:=[9]) #[false,false,false,false,false,false,false,false,false,false] (by kernel_rfl) rfl rfl ⟨(blk_cell BK623.out 0).trans rfl,(blk_cell BK623.out 1).trans rfl,(blk_cell BK620.out 0).trans rfl,(blk_cell BK620.out 1).trans rfl,(blk_cell BK620.out 2).trans rfl,hx626_0⟩ (fun hHeld=>?_);refine with_tabW impl_Truth.tab13 impl_Truth.bits13 (fun HT_ HW_=>?_)
                      generalize w60.drew=w61 at HO_5 HO_6 BK614 BK620 BK623 HB HQ58 HQ62 hf45_0 hx45_0 hx626_0 hHeld ⊢
                      refine pure_ (i:=0) (N:=some 56) (v:=?_) (a':=?_) #[true,false,false,false,false,false,false,false,false,false] rfl rfl (any_of HT_.out (by kernel_rfl)) (fun _ _ _ h=>h) (Or.inl ⟨by rfl,?_⟩) ?_ ?_
                      rotate_left
                      ·intro w'
                       go_simp
                       with_reducible rfl
                      rotate_left
                      ·simp only [Act.put,List.setIfInBounds_toArray,List.set_cons_zero,List.set_cons_succ,i64_w,i32_w]
                       rfl
                      refine pure_ (i:=1) (N:=some 57) (v:=?_) (a':=?_) #[true,true,false,false,false,false,false,false,false,false] rfl rfl (any_of HT_.out (by kernel_rfl)) (fun _ _ _ h=>h) (Or.inl ⟨by rfl,?_⟩) ?_ ?_
                      rotate_left
                      ·intro w'
                       go_simp
                       with_reducible rfl
                      rotate_left
                      ·simp only [Act.put,List.setIfInBounds_toArray,List.set_cons_zero,List.set_cons_succ,i64_w,i32_w]
                       rfl
                      refine pure_ (i:=5) (N:=some 61) (v:=?_) (a':=?_) #[true,true,false,false,false,true,false,false,false,false] rfl rfl (any_of HT_.out (by kernel_rfl)) (fun _ _ _ h=>h) (Or.inl ⟨by rfl,?_⟩) ?_ ?_
                      rotate_left
                      ·intro w'
                       go_simp
                       with_reducible rfl
                      rotate_left
                      ·simp only [Act.put,List.setIfInBounds_toArray,List.set_cons_zero,List.set_cons_succ,i64_w,i32_w]
                       rfl
                      refine take_ (i:=2) (N:=some 58) (v:=?_) (a':=?_) #[true,true,true,false,false,true,false,false,false,false] rfl rfl (take_ofW HT_.out HW_.out (by kernel_rfl)) (fun _ _ _ h=>h) (Or.inl ⟨by rfl,?_⟩) hHeld ?_ ?_
                      rotate_left
                      ·rintro w' ⟨s0,s1,s2,s3,s4,s5⟩
                       go_simp
                       with_reducible rfl
                      rotate_left
                      ·simp only [Act.put,List.setIfInBounds_toArray,List.set_cons_zero,List.set_cons_succ,i64_w,i32_w]
                       rfl
                      refine pure_ (i:=3) (N:=some 59) (v:=?_) (a':=?_) #[true,true,true,true,false,true,false,false,false,false] rfl rfl (any_of HT_.out (by kernel_rfl)) (fun _ _ _ h=>h) (Or.inl ⟨by rfl,?_⟩) ?_ ?_
                      rotate_left
                      ·intro w'
                       go_simp
                       with_reducible rfl
                      rotate_left
                      ·simp only [Act.put,List.setIfInBounds_toArray,List.set_cons_zero,List.set_cons_succ,i64_w,i32_w]
                       rfl
                      refine take_ (i:=4) (N:=some 60) (v:=?_) (a':=?_) #[true,true,true,true,true,true,false,false,false,false] rfl rfl (take_ofW HT_.out HW_.out (by kernel_rfl)) (fun _ _ _ h=>h) (Or.inl ⟨by rfl,?_⟩) hHeld ?_ ?_
                      rotate_left
                      ·rintro w' ⟨s0,s1,s2,s3,s4,s5⟩
                       go_simp
                       with_reducible rfl
                      rotate_left
                      ·simp only [Act.put,List.setIfInBounds_toArray,List.set_cons_zero,List.set_cons_succ,i64_w,i32_w]
                       rfl
                      refine take_ (i:=6) (N:=some 62) (v:=?_) (a':=?_) #[true,true,true,true,true,true,true,false,false,false] rfl rfl (take_ofW HT_.out HW_.out (by kernel_rfl)) (fun _ _ _ h=>h) (Or.inl ⟨by rfl,?_⟩) hHeld ?_ ?_
                      rotate_left
                      ·rintro w' ⟨s0,s1,s2,s3,s4,s5⟩
                       go_simp
                       with_reducible rfl
                      rotate_left
                      ·simp only [Act.put,List.setIfInBounds_toArray,List.set_cons_zero,List.set_cons_succ,i64_w,i32_w]
                       rfl
                      refine pure_ (i:=7) (N:=some 63) (v:=?_) (a':=?_) #[true,true,true,true,true,true,true,true,false,false] rfl rfl (any_of HT_.out (by kernel_rfl)) (fun _ _ _ h=>h) (Or.inl ⟨by rfl,?_⟩) ?_ ?_
                      rotate_left
                      ·intro w'
                       go_simp
                       with_reducible rfl
                      rotate_left
                      ·simp only [Act.put,List.setIfInBounds_toArray,List.set_cons_zero,List.set_cons_succ,i64_w,i32_w]
                       rfl
                      refine pure_ (i:=8) (N:=some 64) (v:=?_) (a':=?_) #[true,true,true,true,true,true,true,true,true,false] rfl rfl (any_of HT_.out (by kernel_rfl)) (fun _ _ _ h=>h) (Or.inl ⟨by rfl,?_⟩) ?_ ?_
                      rotate_left
                      ·intro w'
                       go_simp
                       with_reducible rfl
                      rotate_left
                      ·simp only [Act.put,List.setIfInBounds_toArray,List.set_cons_zero,List.set_cons_succ,i64_w,i32_w]
                       rfl
                      refine last_ (i:=9) (N:=none) #[true,true,true,true,true,true,true,true,true,true] rfl rfl (one_of HT_.out (by kernel_rfl)) (by decide) (fun K hK=>?_)
                      refine skip_ (w1:=?_) (by rfl) rfl ?_ ?_
                      rotate_left
                      ·go_simp
                       rfl
                      refine hK.out _ _ ?_
                      clear hK K
                      refine done_ (done_of HT_.out (by kernel_rfl)) ?_
                      try go_wp2_with (first|((with_reducible refine gate_callee (f:=110) rfl ?_);refine goesL_ (some 67) rfl rfl Try.func110 (by kernel_rfl) rfl #[.slice (some ⟨go41,0,none⟩) y627.length co57] rfl (by (try simp only [List.map_toArray,List.map_cons,List.map_nil]);first|done|(rw [show y627.length=x5_2.length from (Kd.R_reads' HQ62.out).1.symm] <;> rfl)|rfl|(simp only [List.length_drop,List.length_take];rfl)) ?_;(with_reducible refine (slices_Clone_int_int.calls _ _ y627 t628 _ ?side1 ?side2 A46.out).mono ?_);(case side1=>refine (Kd.R_reads' (e:=3) (base:=w.heap.size) (ok:=fun k_=>True) (n:=x5_2.length) (c:=co57) ?_).2.2;exact (by (with_reducible repeat (first|apply Kd.R_alloc|apply Kd.R_drewN|apply Kd.R_drew));exact HQ62.out));(case side2=>rw [show y627.length=x5_2.length from (Kd.R_reads' HQ62.out).1.symm];exact (Kd.R_reads' HO_5.out).2.1);rintro e w63 ⟨v629,rfl,ho0,hb⟩;refine ⟨_,rfl,?_⟩;have n0_:=Aside0.mk (Kd.R_elder' (by (with_reducible repeat (first|apply Kd.R_alloc|apply Kd.R_drewN|apply Kd.R_drew));exact HQ62.out) (Kd.R_base ho0) hb);have n1_:=Aside0.mk (Kd.S_elder' (by (with_reducible repeat (first|apply Kd.S_alloc|apply Kd.S_drewN|apply Kd.S_drew));exact (Kd.S_mono (Kd.S_far (p:=⟨go41,(((rd_T88 l0_1 ((rd_T56 l1 x23_2).f1)).f1):Int).toNat,none⟩) (Kd.S_mono HO_6.out (fun k_ hk=>(⟨hk,fun e_=>hk (by rw [e_];rfl)⟩:_∧k_ ≠ go41))) (fun _ hk=>hk.2) (.int .i64 (wrap64 ((rd y625 ((rd_T88 l0_1 ((rd_T56 l1 x23_2).f1)).f1))+((rd_T56 l1 x23_2).f2))))) (fun _ h_=>h_.1))) (Kd.R_base ho0) hb);have n2_:=Aside0.mk (Kd.R_lower (Kd.R_new' ho0 (Kd.R_lt (by (with_reducible repeat (first|apply Kd.R_alloc|apply Kd.R_drewN|apply Kd.R_drew));exact HQ62.out))) (below_size (by repeat (first|(with_reducible first|exact HB.out|apply below_alloc|apply pw_below_drewN|apply below_drew1|refine below_set ?_ GB41.out|refine below_set ?_ GE614.out|refine below_set ?_ GE620.out|refine below_set ?_ GE623.out)|exact HB.out))));have n3_:=Aside0.mk (blk_below (g:=gb614) (o:=.cells #[.int .i64 a0_0,.slice (some ad622) l0_1.length c0_1] 30 (0,0)) (by (with_reducible repeat (first|refine blk_drewN ?_ _|refine blk_drew ?_|refine blk_alloc ?_ _));refine blk_far ?_ (by have h_:=Kd.R_ne HO_5.out BK614.out (by decide);intro e_;exact h_ (by rw [e_];rfl)) _;(with_reducible repeat (first|refine blk_drewN ?_ _|refine blk_drew ?_|refine blk_alloc ?_ _));exact BK614.out) hb);have n4_:=Aside0.mk (blk_below (g:=gb620) (o:=.cells #[.int .i64 ((rd_T56 l1 x23_2).f0),.int .i64 ((rd_T56 l1 x23_2).f1),.int .i64 ((rd_T56 l1 x23_2).f2)] 56 (0,0)) (by (with_reducible repeat (first|refine blk_drewN ?_ _|refine blk_drew ?_|refine blk_alloc ?_ _));refine blk_far ?_ (by have h_:=Kd.R_ne HO_5.out BK620.out (by decide);intro e_;exact h_ (by rw [e_];rfl)) _;(with_reducible repeat (first|refine blk_drewN ?_ _|refine blk_drew ?_|refine blk_alloc ?_ _));exact BK620.out) hb);have n5_:=Aside0.mk (blk_below (g:=gb623) (o:=.cells #[.int .i64 ((rd_T88 l0_1 ((rd_T56 l1 x23_2).f1)).f0),.int .i64 ((rd_T88 l0_1 ((rd_T56 l1 x23_2).f1)).f1)] 88 (0,0)) (by (with_reducible repeat (first|refine blk_drewN ?_ _|refine blk_drew ?_|refine blk_alloc ?_ _));refine blk_far ?_ (by have h_:=Kd.R_ne HO_5.out BK623.out (by decide);intro e_;exact h_ (by rw [e_];rfl)) _;(with_reducible repeat (first|refine blk_drewN ?_ _|refine blk_drew ?_|refine blk_alloc ?_ _));exact BK623.out) hb);have n6_:=Aside0.mk (below_step (by repeat (first|(with_reducible first|exact HB.out|apply below_alloc|apply pw_below_drewN|apply below_drew1|refine below_set ?_ GB41.out|refine below_set ?_ GE614.out|refine below_set ?_ GE620.out|refine below_set ?_ GE623.out)|exact HB.out)) hb);clear HO_5;clear HO_6;clear BK614;clear BK620;clear BK623;clear HB;have HO_5:=n0_;have HO_6:=n1_;have HO630:=n2_;have BK614:=n3_;have BK620:=n4_;have BK623:=n5_;have HB:=n6_;clear n0_ n1_ n2_ n3_ n4_ n5_ n6_;(try clear hb);(try clear hb2);(try clear hk);(try clear hi);(try clear ho0);obtain ⟨Ao65,co65,eo65⟩:=Kd.R_slice HO630.out;subst eo65)|((with_reducible refine gate_builtin (b:=.append) (xs:=#[.tmp 65,.tmp 68]) rfl ?_);(try (refine gate_guard (by rfl) ?_;dsimp only));at_builtin;refine Kd.S_append (Kd.slice 3 (Kd.int .i64)) (w0:=w) w.heap.size rfl (.tmp 65) (.tmp 68) 73 59 (.slice none 0 0) 24 rfl Try.underlying73 info59 rfl (by decide) (by omega) u6 x6_2 t628 [.slice Ao65 t628.length co65] (fun k_=>some k_ ≠ (.slice (some ⟨go41,0,none⟩) x5_2.length co57:Value).ownBlock) (fun k_=>some k_=(.slice Ao65 t628.length co65:Value).ownBlock) rfl rfl ?aP (fun k_ hk_=>((Kd.R_mono (ok':=fun k_=>((fun k_=>some k_ ≠ (.slice (some ⟨go41,0,none⟩) x5_2.length co57:Value).ownBlock)) k_∧some k_ ≠ (u6:Value).ownBlock) (Kd.R_apart' (HO630.out) (Kd.S_typed HO_6.out) (by decide)) (fun k_ hk=>⟨hk.1.2,hk.2⟩))).1 k_ hk_.symm) ?aF ?aO ?aB ?aS ?aL ?_;(case aP=>exact Kd.M_row (Kd.R_mono (Kd.R_tight rfl (Kd.R_mono (ok':=fun k_=>((fun k_=>some k_ ≠ (.slice (some ⟨go41,0,none⟩) x5_2.length co57:Value).ownBlock)) k_∧some k_ ≠ (u6:Value).ownBlock) (Kd.R_apart' (HO630.out) (Kd.S_typed HO_6.out) (by decide)) (fun k_ hk=>⟨hk.1.2,hk.2⟩))) (fun _ h_=>h_)));(case aB=>exact (by repeat (first|(with_reducible first|exact HB.out|apply below_alloc|apply pw_below_drewN|apply below_drew1|refine below_set ?_ GE614.out|refine below_set ?_ GE620.out|refine below_set ?_ GE623.out)|exact HB.out)));(case aF=>exact (fun k_ hk=>Kd.fresh' (Kd.R_lt (by (with_reducible repeat (first|apply Kd.R_alloc|apply Kd.R_drewN|apply Kd.R_drew));exact HO_5.out)) k_ hk));(case aO=>exact (by (with_reducible repeat (first|apply Kd.S_alloc|apply Kd.S_drewN|apply Kd.S_drew));exact Kd.S_mono HO_6.out (fun k_ hk=>⟨hk.1,fun e_=>hk.2 e_⟩)));(case aS=>exact (below_size (by repeat (first|(with_reducible first|exact HB.out|apply below_alloc|apply pw_below_drewN|apply below_drew1|refine below_set ?_ GE614.out|refine below_set ?_ GE620.out|refine below_set ?_ GE623.out)|exact HB.out))));(case aL=>have:=LMc47.out;omega);intro v632 w64 ho hb hg hat;rw [← Ny631.out] at ho;have n0_:=Aside0.mk (Kd.R_over' (by (with_reducible repeat (first|apply Kd.R_alloc|apply Kd.R_drewN|apply Kd.R_drew));exact HO_5.out) (Kd.S_typed (by (with_reducible repeat (first|apply Kd.S_alloc|apply Kd.S_drewN|apply Kd.S_drew));exact HO_6.out)) (by decide) hg);have n1_:=Aside0.mk (blk_grown (g:=gb614) (o:=.cells #[.int .i64 a0_0,.slice (some ad622) l0_1.length c0_1] 30 (0,0)) (by (with_reducible repeat (first|refine blk_drewN ?_ _|refine blk_drew ?_|refine blk_alloc ?_ _));exact BK614.out) hg (Kd.S_ne HO_6.out BK614.out (by decide)));have n2_:=Aside0.mk (blk_grown (g:=gb620) (o:=.cells #[.int .i64 ((rd_T56 l1 x23_2).f0),.int .i64 ((rd_T56 l1 x23_2).f1),.int .i64 ((rd_T56 l1 x23_2).f2)] 56 (0,0)) (by (with_reducible repeat (first|refine blk_drewN ?_ _|refine blk_drew ?_|refine blk_alloc ?_ _));exact BK620.out) hg (Kd.S_ne HO_6.out BK620.out (by decide)));have n3_:=Aside0.mk (blk_grown (g:=gb623) (o:=.cells #[.int .i64 ((rd_T88 l0_1 ((rd_T56 l1 x23_2).f1)).f0),.int .i64 ((rd_T88 l0_1 ((rd_T56 l1 x23_2).f1)).f1)] 88 (0,0)) (by (with_reducible repeat (first|refine blk_drewN ?_ _|refine blk_drew ?_|refine blk_alloc ?_ _));exact BK623.out) hg (Kd.S_ne HO_6.out BK623.out (by decide)));have n4_:=Aside0.mk (hb);have n5_:=Aside0.mk (ho);clear HO_5;clear BK614;clear BK620;clear BK623;clear HB;clear HO_6;clear HO630;have HO_5:=n0_;have BK614:=n1_;have BK620:=n2_;have BK623:=n3_;have HB:=n4_;have HO633:=n5_;clear n0_ n1_ n2_ n3_ n4_ n5_;clear ho hb hg hat))
                      go_roundg kj19
                      case measure=>have:=HJ2.out;have:=HK2.out;have:=HJ19.out;omega
                      case rel=>exact ⟨(y627),(y631),(wrap64 (x23_2+1)),(by first|rfl|(simp;done)|(simp [*];done)),H',⟨by have:=HJ2.out;have:=HK2.out;have:=HJ19.out;omega⟩,⟨by exact Kd.R_mono HO_5.out (fun _ hk=>trivial)⟩,⟨by exact HO633.out⟩,⟨by exact BK614.out⟩,⟨by exact HB.out⟩⟩
                     rw [if_neg c47] at H
                     exact absurd H (by simp)
                    rw [if_neg c44] at H
                    exact absurd H (by simp)
                   rw [if_neg c43] at H
                   exact absurd H (by simp)
                  rw [if_neg c42] at H
                  have c42b0:decide (0≤((rd_T88 l0_1 ((rd_T56 l1 x23_2).f1)).f1))=false:=decide_eq_false c42
                  clear c42
                  replace H:=Option.bind_eq_some_iff.mp H
                  obtain ⟨t634,A660,H⟩:=H
                  replace H:(if x6_2.length<5864062014805 then (impl_Truth.l0 kj19 y625 (x6_2 ++ [t634]) l1 (l1.length:Int) (wrap64 (x23_2+1)) a0_0 l0_1) else (none))=some r:=H
                  have A66:=Aside0.mk A660
                  clear A660
                  by_cases c67:x6_2.length<5864062014805
                  ·rw [if_pos c67] at H
                   have LMc67:=Aside0.mk c67
                   clear c67
                   obtain ⟨y637,hy637⟩:∃ y_:List (List Int),y_=(x6_2 ++ [t634]):=⟨_,rfl⟩
                   replace H:(impl_Truth.l0 kj19 y625 y637 l1 (l1.length:Int) (wrap64 (x23_2+1)) a0_0 l0_1)=some r:=by first|(rw [hy637];with_reducible exact H)|(have H2_:=(Option.bind_some _ _).symm.trans H;rw [hy637];with_reducible exact H2_)|(have H2_:=(Option.bind_some _ _).symm.trans H;with_reducible exact H2_)|with_reducible exact H|(rw [hy637];exact H)|exact H
                   have Ny637:=Aside0.mk hy637
                   clear hy637
                   have H':=Aside0.mk H
                   clear H
                   have hnb68:=NB614_620.out
                   have hnc68:=NB620_614.out
                   have hcz69_0:wc.cell? ⟨gb614,0,none⟩=some (.int .i64 a0_0):=(blk_cell BK614.out 0).trans rfl
                   have hcz69_1:wc.cell? ⟨gb614,1,none⟩=some (.slice A0_1 l0_1.length c0_1):=(blk_cell BK614.out 1).trans rfl
                   have hfz69_0:=blk_frozen BK614.out 0
                   have hfz69_1:=blk_frozen BK614.out 1
                   have hcz70_0:wc.cell? ⟨gb620,0,none⟩=some (.int .i64 ((rd_T56 l1 x23_2).f0)):=(blk_cell BK620.out 0).trans rfl
                   have hcz70_1:wc.cell? ⟨gb620,1,none⟩=some (.int .i64 ((rd_T56 l1 x23_2).f1)):=(blk_cell BK620.out 1).trans rfl
                   have hcz70_2:wc.cell? ⟨gb620,2,none⟩=some (.int .i64 ((rd_T56 l1 x23_2).f2)):=(blk_cell BK620.out 2).trans rfl
                   have hfz70_0:=blk_frozen BK620.out 0
                   have hfz70_1:=blk_frozen BK620.out 1
                   have hfz70_2:=blk_frozen BK620.out 2
                   have p622:0≤(((rd_T56 l1 x23_2).f1):Int):=of_decide_eq_true (by first|(with_reducible assumption)|assumption)
                   have q622:((rd_T56 l1 x23_2).f1)<(l0_1.length:Int):=of_decide_eq_true (by first|(with_reducible assumption)|assumption)
                   obtain ⟨ad622,e622,hx622_0,hx622_1⟩:=at_T88 HR0_1.out ((rd_T56 l1 x23_2).f1) p622 q622
                   cases e622
                   replace hx622_0:=(HB.out.cell (World.block_lt_of_cell? w _ hx622_0)).trans hx622_0
                   replace hx622_1:=(HB.out.cell (World.block_lt_of_cell? w _ hx622_1)).trans hx622_1
                   replace p622:=eq_true p622
                   replace q622:=eq_true q622
                   try go_wp2_with (first|((with_reducible refine gate_dst (N:=9) rfl ?_);(try (refine gate_guard (by rfl) ?_;dsimp only));refine box_event ?hg (N:=9) ?hd (cs:=#[.int .i64 0,.int .i64 0]) (t:=88) ?hr ?_;(case hd=>rfl);(case hg=>rfl);(case hr=>first|(go_simp;done)|(go_simp;rfl));intro gb623 hg w71 hbox hb;have n0_:=Aside0.mk (Kd.R_below (by exact HO_5.out) hb);have n1_:=Aside0.mk (Kd.S_below (by exact HO_6.out) hb);have n2_:=Aside0.mk (blk_below (g:=gb614) (o:=.cells #[.int .i64 a0_0,.slice (some ad622) l0_1.length c0_1] 30 (0,0)) (by exact BK614.out) hb);have n3_:=Aside0.mk (blk_below (g:=gb620) (o:=.cells #[.int .i64 ((rd_T56 l1 x23_2).f0),.int .i64 ((rd_T56 l1 x23_2).f1),.int .i64 ((rd_T56 l1 x23_2).f2)] 56 (0,0)) (by exact BK620.out) hb);have n4_:=Aside0.mk (below_step (by exact HB.out) hb);have n5_:=Aside0.mk (hbox);have n6_:=Aside0.mk ((by rw [hg];exact (below_size (by exact HB.out)):w.heap.size≤gb623));have n7_:=Aside0.mk ((by rw [hg];exact (below_size (by exact HB.out)):w.heap.size≤gb623));have n8_:=Aside0.mk ((by rw [hg];exact Nat.ne_of_lt (blk_lt (g:=gb614) (o:=.cells #[.int .i64 a0_0,.slice (some ad622) l0_1.length c0_1] 30 (0,0)) (by exact BK614.out)):gb614 ≠ gb623));have n9_:=Aside0.mk ((by rw [hg];exact Nat.ne_of_gt (blk_lt (g:=gb614) (o:=.cells #[.int .i64 a0_0,.slice (some ad622) l0_1.length c0_1] 30 (0,0)) (by exact BK614.out)):gb623 ≠ gb614));have n10_:=Aside0.mk ((by rw [hg];exact Nat.ne_of_lt (blk_lt (g:=gb620) (o:=.cells #[.int .i64 ((rd_T56 l1 x23_2).f0),.int .i64 ((rd_T56 l1 x23_2).f1),.int .i64 ((rd_T56 l1 x23_2).f2)] 56 (0,0)) (by exact BK620.out)):gb620 ≠ gb623));have n11_:=Aside0.mk ((by rw [hg];exact Nat.ne_of_gt (blk_lt (g:=gb620) (o:=.cells #[.int .i64 ((rd_T56 l1 x23_2).f0),.int .i64 ((rd_T56 l1 x23_2).f1),.int .i64 ((rd_T56 l1 x23_2).f2)] 56 (0,0)) (by exact BK620.out)):gb623 ≠ gb620));clear HO_5;clear HO_6;clear BK614;clear BK620;clear HB;have HO_5:=n0_;have HO_6:=n1_;have BK614:=n2_;have BK620:=n3_;have HB:=n4_;have BK623:=n5_;have GW623:=n6_;have GE623:=n7_;have NB614_623:=n8_;have NB623_614:=n9_;have NB620_623:=n10_;have NB623_620:=n11_;clear n0_ n1_ n2_ n3_ n4_ n5_ n6_ n7_ n8_ n9_ n10_ n11_;clear hb hbox hg;have hnb72:=NB623_614.out;have hnc72:=NB614_623.out;have hnb73:=NB623_620.out;have hnc73:=NB620_623.out;have hcz74_0:w71.cell? ⟨gb623,0,none⟩=some (.int .i64 0):=(blk_cell BK623.out 0).trans rfl;have hcz74_1:w71.cell? ⟨gb623,1,none⟩=some (.int .i64 0):=(blk_cell BK623.out 1).trans rfl;have hfz74_0:=blk_frozen BK623.out 0;have hfz74_1:=blk_frozen BK623.out 1))
                   have n0_:Aside0 (Kd.R (Kd.int .i64) 3 ((w71.setCell ⟨gb623,0,none⟩ (.int .i64 ((rd_T88 l0_1 ((rd_T56 l1 x23_2).f1)).f0))).setCell ⟨gb623,1,none⟩ (.int .i64 ((rd_T88 l0_1 ((rd_T56 l1 x23_2).f1)).f1))) w.heap.size (fun _=>True) v617 x5_2):=⟨by exact Kd.R_mono (Kd.R_far (p:=⟨gb623,1,none⟩) (Kd.R_far (p:=⟨gb623,0,none⟩) (Kd.R_types HO_5.out BK623.out (by decide)) (fun _ hk=>hk.2) (.int .i64 ((rd_T88 l0_1 ((rd_T56 l1 x23_2).f1)).f0))) (fun _ hk=>hk.2) (.int .i64 ((rd_T88 l0_1 ((rd_T56 l1 x23_2).f1)).f1))) (fun _ hk=>trivial)⟩
                   have n1_:Aside0 (Kd.S (Kd.slice 3 (Kd.int .i64)) 59 ((w71.setCell ⟨gb623,0,none⟩ (.int .i64 ((rd_T88 l0_1 ((rd_T56 l1 x23_2).f1)).f0))).setCell ⟨gb623,1,none⟩ (.int .i64 ((rd_T88 l0_1 ((rd_T56 l1 x23_2).f1)).f1))) w.heap.size (fun k_=>some k_ ≠ (v617:Value).ownBlock) u6 x6_2):=⟨by exact Kd.S_mono (Kd.S_far (p:=⟨gb623,1,none⟩) (Kd.S_far (p:=⟨gb623,0,none⟩) (Kd.S_types HO_6.out BK623.out (by decide)) (fun _ hk=>hk.2) (.int .i64 ((rd_T88 l0_1 ((rd_T56 l1 x23_2).f1)).f0))) (fun _ hk=>hk.2) (.int .i64 ((rd_T88 l0_1 ((rd_T56 l1 x23_2).f1)).f1))) (fun _ hk=>hk.1)⟩
                   have n2_:Aside0 (((w71.setCell ⟨gb623,0,none⟩ (.int .i64 ((rd_T88 l0_1 ((rd_T56 l1 x23_2).f1)).f0))).setCell ⟨gb623,1,none⟩ (.int .i64 ((rd_T88 l0_1 ((rd_T56 l1 x23_2).f1)).f1))).heap[gb614]?=some (.cells #[.int .i64 a0_0,.slice (some ad622) l0_1.length c0_1] 30 (0,0))):=⟨by refine blk_far ?_ NB614_623.out _;refine blk_far ?_ NB614_623.out _;exact BK614.out⟩
                   have n3_:Aside0 (((w71.setCell ⟨gb623,0,none⟩ (.int .i64 ((rd_T88 l0_1 ((rd_T56 l1 x23_2).f1)).f0))).setCell ⟨gb623,1,none⟩ (.int .i64 ((rd_T88 l0_1 ((rd_T56 l1 x23_2).f1)).f1))).heap[gb620]?=some (.cells #[.int .i64 ((rd_T56 l1 x23_2).f0),.int .i64 ((rd_T56 l1 x23_2).f1),.int .i64 ((rd_T56 l1 x23_2).f2)] 56 (0,0))):=⟨by (with_reducible repeat (first|refine blk_drewN ?_ _|refine blk_drew ?_|refine blk_alloc ?_ _));refine blk_far ?_ NB620_623.out _;(with_reducible repeat (first|refine blk_drewN ?_ _|refine blk_drew ?_|refine blk_alloc ?_ _));refine blk_far ?_ NB620_623.out _;(with_reducible repeat (first|refine blk_drewN ?_ _|refine blk_drew ?_|refine blk_alloc ?_ _));exact BK620.out⟩
                   have n4_:Aside0 (((w71.setCell ⟨gb623,0,none⟩ (.int .i64 ((rd_T88 l0_1 ((rd_T56 l1 x23_2).f1)).f0))).setCell ⟨gb623,1,none⟩ (.int .i64 ((rd_T88 l0_1 ((rd_T56 l1 x23_2).f1)).f1))).heap[gb623]?=some (.cells #[.int .i64 ((rd_T88 l0_1 ((rd_T56 l1 x23_2).f1)).f0),.int .i64 ((rd_T88 l0_1 ((rd_T56 l1 x23_2).f1)).f1)] 88 (0,0))):=⟨by (with_reducible repeat (first|refine blk_drewN ?_ _|refine blk_drew ?_|refine blk_alloc ?_ _));refine blk_put (cs:=#[.int .i64 ((rd_T88 l0_1 ((rd_T56 l1 x23_2).f1)).f0),.int .i64 0]) ?_ 1 _ rfl;(with_reducible repeat (first|refine blk_drewN ?_ _|refine blk_drew ?_|refine blk_alloc ?_ _));refine blk_put (cs:=#[.int .i64 0,.int .i64 0]) ?_ 0 _ rfl;(with_reducible repeat (first|refine blk_drewN ?_ _|refine blk_drew ?_|refine blk_alloc ?_ _));exact BK623.out⟩
                   have n5_:Aside0 (Below w.heap.size w ((w71.setCell ⟨gb623,0,none⟩ (.int .i64 ((rd_T88 l0_1 ((rd_T56 l1 x23_2).f1)).f0))).setCell ⟨gb623,1,none⟩ (.int .i64 ((rd_T88 l0_1 ((rd_T56 l1 x23_2).f1)).f1)))):=⟨by repeat (first|(with_reducible first|exact HB.out|apply below_alloc|apply pw_below_drewN|apply below_drew1|refine below_set ?_ GE614.out|refine below_set ?_ GE620.out|refine below_set ?_ GE623.out)|exact HB.out)⟩
                   (try clear HO_5)
                   (try clear HO_6)
                   (try clear BK614)
                   (try clear BK620)
                   (try clear BK623)
                   (try clear HB)
                   generalize ((w71.setCell ⟨gb623,0,none⟩ (.int .i64 ((rd_T88 l0_1 ((rd_T56 l1 x23_2).f1)).f0))).setCell ⟨gb623,1,none⟩ (.int .i64 ((rd_T88 l0_1 ((rd_T56 l1 x23_2).f1)).f1)))=w75 at n0_ n1_ n2_ n3_ n4_ n5_ ⊢
                   have HO_5:=n0_
                   have HO_6:=n1_
                   have BK614:=n2_
                   have BK620:=n3_
                   have BK623:=n4_
                   have HB:=n5_
                   clear n0_ n1_ n2_ n3_ n4_ n5_
                   have n0_:=Aside0.mk (Kd.R_drew HO_5.out)
                   have n1_:=Aside0.mk (Kd.S_drew HO_6.out)
                   have n2_:=Aside0.mk (blk_drew BK614.out)
                   have n3_:=Aside0.mk (blk_drew BK620.out)
                   have n4_:=Aside0.mk (blk_drew BK623.out)
                   have n5_:=Aside0.mk (below_drew1 HB.out)
                   clear HO_5
                   clear HO_6
                   clear BK614
                   clear BK620
                   clear BK623
                   clear HB
                   have HO_5:=n0_
                   have HO_6:=n1_
                   have BK614:=n2_
                   have BK620:=n3_
                   have BK623:=n4_
                   have HB:=n5_
                   clear n0_ n1_ n2_ n3_ n4_ n5_
                   obtain ⟨Ao77,co77,eo77⟩:=Kd.R_slice HO_5.out
                   (first|subst eo77|(injection eo77 with f1_ f2_ f3_;have f4_:=f1_.symm;have f5_:=f3_.symm;clear f1_ f2_ f3_;subst f4_;subst f5_))
                   have p624:0≤(((rd_T88 l0_1 ((rd_T56 l1 x23_2).f1)).f0):Int):=of_decide_eq_true (by first|(with_reducible assumption)|assumption)
                   have q624:((rd_T88 l0_1 ((rd_T56 l1 x23_2).f1)).f0)<(x5_2.length:Int):=of_decide_eq_true (by first|(with_reducible assumption)|assumption)
                   obtain ⟨ad624,e624,hx624_0⟩:=Kd.at_int (Kd.R_reads' HO_5.out).2.2 ((rd_T88 l0_1 ((rd_T56 l1 x23_2).f1)).f0) p624 q624
                   cases e624
                   replace p624:=eq_true p624
                   replace q624:=eq_true q624
                   have p41:0≤(((rd_T88 l0_1 ((rd_T56 l1 x23_2).f1)).f0):Int):=of_decide_eq_true (by first|(with_reducible assumption)|assumption)
                   have q41:(((rd_T88 l0_1 ((rd_T56 l1 x23_2).f1)).f0):Int)<((x5_2.length:Int):Int):=of_decide_eq_true (by first|(with_reducible assumption)|assumption)
                   obtain ⟨go41,co41,eo41,gb41,gl41,cl41,HG41⟩:=Kd.R_form HO_5.out (by omega)
                   (first|cases eo41|(injection eo41 with ea_ en_ ec_;(first|subst ea_|(injection ea_ with ea_;subst ea_));subst ec_;clear en_))
                   have GB41:=Aside0.mk gb41
                   have GG41:=Aside0.mk HG41
                   clear gb41 gl41 HG41
                   (first|simp only [add_plain] at hx624_0|skip)
                   obtain ⟨hx41_0,hf41_0⟩:=Kd.R_celln 0 HO_5.out (((rd_T88 l0_1 ((rd_T56 l1 x23_2).f1)).f0):Int) p41 q41
                   replace p41:=eq_true p41
                   replace q41:=eq_true q41
                   have HP78:=Kd.R_putn HO_5.out (((rd_T88 l0_1 ((rd_T56 l1 x23_2).f1)).f0):Int) (wrap64 ((rd x5_2 ((rd_T88 l0_1 ((rd_T56 l1 x23_2).f1)).f0)) - ((rd_T56 l1 x23_2).f2)))
                   rw [← Ny625.out] at HP78
                   have HQ78:=Aside0.mk HP78
                   clear HP78
                   refine start_ (n:=10) (S:=fun w'=>w'.cell? ⟨gb623,0,none⟩=some (.int .i64 ((rd_T88 l0_1 ((rd_T56 l1 x23_2).f1)).f0))∧w'.cell? ⟨gb623,1,none⟩=some (.int .i64 ((rd_T88 l0_1 ((rd_T56 l1 x23_2).f1)).f1))∧w'.cell? ⟨gb620,0,none⟩=some (.int .i64 ((rd_T56 l1 x23_2).f0))∧w'.cell? ⟨gb620,1,none⟩=some (.int .i64 ((rd_T56 l1 x23_2).f1))∧w'.cell? ⟨gb620,2,none⟩=some (.int .i64 ((rd_T56 l1 x23_2).f2))∧w'.cell? ⟨go41,(((rd_T88 l0_1 ((rd_T56 l1 x23_2).f1)).f0)).toNat,none⟩=some (.int .i64 (rd x5_2 ((rd_T88 l0_1 ((rd_T56 l1 x23_2).f1)).f0)))) (ds:=[9]) #[false,false,false,false,false,false,false,false,false,false] (by kernel_rfl) rfl rfl ⟨(blk_cell BK623.out 0).trans rfl,(blk_cell BK623.out 1).trans rfl,(blk_cell BK620.out 0).trans rfl,(blk_cell BK620.out 1).trans rfl,(blk_cell BK620.out 2).trans rfl,hx624_0⟩ (fun hHeld=>?_);refine with_tabW impl_Truth.tab11 impl_Truth.bits11 (fun HT_ HW_=>?_)
                   generalize w75.drew=w76 at HO_5 HO_6 BK614 BK620 BK623 HB GG41 HQ78 hf41_0 hx41_0 hx624_0 hHeld ⊢
                   refine pure_ (i:=0) (N:=some 44) (v:=?_) (a':=?_) #[true,false,false,false,false,false,false,false,false,false] rfl rfl (any_of HT_.out (by kernel_rfl)) (fun _ _ _ h=>h) (Or.inl ⟨by rfl,?_⟩) ?_ ?_
                   rotate_left
                   ·intro w'
                    go_simp
                    with_reducible rfl
                   rotate_left
                   ·simp only [Act.put,List.setIfInBounds_toArray,List.set_cons_zero,List.set_cons_succ,i64_w,i32_w]
                    rfl
                   refine pure_ (i:=1) (N:=some 45) (v:=?_) (a':=?_) #[true,true,false,false,false,false,false,false,false,false] rfl rfl (any_of HT_.out (by kernel_rfl)) (fun _ _ _ h=>h) (Or.inl ⟨by rfl,?_⟩) ?_ ?_
                   rotate_left
                   ·intro w'
                    go_simp
                    with_reducible rfl
                   rotate_left
                   ·simp only [Act.put,List.setIfInBounds_toArray,List.set_cons_zero,List.set_cons_succ,i64_w,i32_w]
                    rfl
                   refine pure_ (i:=5) (N:=some 49) (v:=?_) (a':=?_) #[true,true,false,false,false,true,false,false,false,false] rfl rfl (any_of HT_.out (by kernel_rfl)) (fun _ _ _ h=>h) (Or.inl ⟨by rfl,?_⟩) ?_ ?_
                   rotate_left
                   ·intro w'
                    go_simp
                    with_reducible rfl
                   rotate_left
                   ·simp only [Act.put,List.setIfInBounds_toArray,List.set_cons_zero,List.set_cons_succ,i64_w,i32_w]
                    rfl
                   refine take_ (i:=2) (N:=some 46) (v:=?_) (a':=?_) #[true,true,true,false,false,true,false,false,false,false] rfl rfl (take_ofW HT_.out HW_.out (by kernel_rfl)) (fun _ _ _ h=>h) (Or.inl ⟨by rfl,?_⟩) hHeld ?_ ?_
                   rotate_left
                   ·rintro w' ⟨s0,s1,s2,s3,s4,s5⟩
                    go_simp
                    with_reducible rfl
                   rotate_left
                   ·simp only [Act.put,List.setIfInBounds_toArray,List.set_cons_zero,List.set_cons_succ,i64_w,i32_w]
                    rfl
                   refine pure_ (i:=3) (N:=some 47) (v:=?_) (a':=?_) #[true,true,true,true,false,true,false,false,false,false] rfl rfl (any_of HT_.out (by kernel_rfl)) (fun _ _ _ h=>h) (Or.inl ⟨by rfl,?_⟩) ?_ ?_
                   rotate_left
                   ·intro w'
                    go_simp
                    with_reducible rfl
                   rotate_left
                   ·simp only [Act.put,List.setIfInBounds_toArray,List.set_cons_zero,List.set_cons_succ,i64_w,i32_w]
                    rfl
                   refine take_ (i:=4) (N:=some 48) (v:=?_) (a':=?_) #[true,true,true,true,true,true,false,false,false,false] rfl rfl (take_ofW HT_.out HW_.out (by kernel_rfl)) (fun _ _ _ h=>h) (Or.inl ⟨by rfl,?_⟩) hHeld ?_ ?_
                   rotate_left
                   ·rintro w' ⟨s0,s1,s2,s3,s4,s5⟩
                    go_simp
                    with_reducible rfl
                   rotate_left
                   ·simp only [Act.put,List.setIfInBounds_toArray,List.set_cons_zero,List.set_cons_succ,i64_w,i32_w]
                    rfl
                   refine take_ (i:=6) (N:=some 50) (v:=?_) (a':=?_) #[true,true,true,true,true,true,true,false,false,false] rfl rfl (take_ofW HT_.out HW_.out (by kernel_rfl)) (fun _ _ _ h=>h) (Or.inl ⟨by rfl,?_⟩) hHeld ?_ ?_
                   rotate_left
                   ·rintro w' ⟨s0,s1,s2,s3,s4,s5⟩
                    go_simp
                    with_reducible rfl
                   rotate_left
                   ·simp only [Act.put,List.setIfInBounds_toArray,List.set_cons_zero,List.set_cons_succ,i64_w,i32_w]
                    rfl
                   refine pure_ (i:=7) (N:=some 51) (v:=?_) (a':=?_) #[true,true,true,true,true,true,true,true,false,false] rfl rfl (any_of HT_.out (by kernel_rfl)) (fun _ _ _ h=>h) (Or.inl ⟨by rfl,?_⟩) ?_ ?_
                   rotate_left
                   ·intro w'
                    go_simp
                    with_reducible rfl
                   rotate_left
                   ·simp only [Act.put,List.setIfInBounds_toArray,List.set_cons_zero,List.set_cons_succ,i64_w,i32_w]
                    rfl
                   refine pure_ (i:=8) (N:=some 52) (v:=?_) (a':=?_) #[true,true,true,true,true,true,true,true,true,false] rfl rfl (any_of HT_.out (by kernel_rfl)) (fun _ _ _ h=>h) (Or.inl ⟨by rfl,?_⟩) ?_ ?_
                   rotate_left
                   ·intro w'
                    go_simp
                    with_reducible rfl
                   rotate_left
                   ·simp only [Act.put,List.setIfInBounds_toArray,List.set_cons_zero,List.set_cons_succ,i64_w,i32_w]
                    rfl
                   refine last_ (i:=9) (N:=none) #[true,true,true,true,true,true,true,true,true,true] rfl rfl (one_of HT_.out (by kernel_rfl)) (by decide) (fun K hK=>?_)
                   refine skip_ (w1:=?_) (by rfl) rfl ?_ ?_
                   rotate_left
                   ·go_simp
                    rfl
                   refine hK.out _ _ ?_
                   clear hK K
                   refine done_ (done_of HT_.out (by kernel_rfl)) ?_
                   have hnx_:gb623 ≠ go41:=(by have h_:=Kd.R_ne HO_5.out BK623.out (by decide);intro e_;exact h_ (by rw [e_];rfl))
                   have hny_:go41 ≠ gb623:=fun e_=>hnx_ e_.symm
                   have hcz79_0:w76.cell? ⟨gb623,0,none⟩=some (.int .i64 ((rd_T88 l0_1 ((rd_T56 l1 x23_2).f1)).f0)):=(blk_cell BK623.out 0).trans rfl
                   have hcz79_1:w76.cell? ⟨gb623,1,none⟩=some (.int .i64 ((rd_T88 l0_1 ((rd_T56 l1 x23_2).f1)).f1)):=(blk_cell BK623.out 1).trans rfl
                   have hfz79_0:=blk_frozen BK623.out 0
                   have hfz79_1:=blk_frozen BK623.out 1
                   try go_wp2_with (first|((with_reducible refine gate_callee (f:=110) rfl ?_);refine goesL_ (some 67) rfl rfl Try.func110 (by kernel_rfl) rfl #[.slice (some ⟨go41,0,none⟩) y625.length co77] rfl (by (try simp only [List.map_toArray,List.map_cons,List.map_nil]);first|done|(rw [show y625.length=x5_2.length from (Kd.R_reads' HQ78.out).1.symm] <;> rfl)|rfl|(simp only [List.length_drop,List.length_take];rfl)) ?_;(with_reducible refine (slices_Clone_int_int.calls _ _ y625 t634 _ ?side1 ?side2 A66.out).mono ?_);(case side1=>refine (Kd.R_reads' (e:=3) (base:=w.heap.size) (ok:=fun k_=>True) (n:=x5_2.length) (c:=co77) ?_).2.2;exact (by (with_reducible repeat (first|apply Kd.R_alloc|apply Kd.R_drewN|apply Kd.R_drew));exact HQ78.out));(case side2=>rw [show y625.length=x5_2.length from (Kd.R_reads' HQ78.out).1.symm];exact (Kd.R_reads' HO_5.out).2.1);rintro e w80 ⟨v635,rfl,ho0,hb⟩;refine ⟨_,rfl,?_⟩;have n0_:=Aside0.mk (Kd.R_elder' (by (with_reducible repeat (first|apply Kd.R_alloc|apply Kd.R_drewN|apply Kd.R_drew));exact HQ78.out) (Kd.R_base ho0) hb);have n1_:=Aside0.mk (Kd.S_elder' (by (with_reducible repeat (first|apply Kd.S_alloc|apply Kd.S_drewN|apply Kd.S_drew));exact (Kd.S_mono (Kd.S_far (p:=⟨go41,(((rd_T88 l0_1 ((rd_T56 l1 x23_2).f1)).f0):Int).toNat,none⟩) (Kd.S_mono HO_6.out (fun k_ hk=>(⟨hk,fun e_=>hk (by rw [e_];rfl)⟩:_∧k_ ≠ go41))) (fun _ hk=>hk.2) (.int .i64 (wrap64 ((rd x5_2 ((rd_T88 l0_1 ((rd_T56 l1 x23_2).f1)).f0)) - ((rd_T56 l1 x23_2).f2))))) (fun _ h_=>h_.1))) (Kd.R_base ho0) hb);have n2_:=Aside0.mk (Kd.R_lower (Kd.R_new' ho0 (Kd.R_lt (by (with_reducible repeat (first|apply Kd.R_alloc|apply Kd.R_drewN|apply Kd.R_drew));exact HQ78.out))) (below_size (by repeat (first|(with_reducible first|exact HB.out|apply below_alloc|apply pw_below_drewN|apply below_drew1|refine below_set ?_ GB41.out|refine below_set ?_ GE614.out|refine below_set ?_ GE620.out|refine below_set ?_ GE623.out)|exact HB.out))));have n3_:=Aside0.mk (blk_below (g:=gb614) (o:=.cells #[.int .i64 a0_0,.slice (some ad622) l0_1.length c0_1] 30 (0,0)) (by (with_reducible repeat (first|refine blk_drewN ?_ _|refine blk_drew ?_|refine blk_alloc ?_ _));refine blk_far ?_ (by have h_:=Kd.R_ne HO_5.out BK614.out (by decide);intro e_;exact h_ (by rw [e_];rfl)) _;(with_reducible repeat (first|refine blk_drewN ?_ _|refine blk_drew ?_|refine blk_alloc ?_ _));exact BK614.out) hb);have n4_:=Aside0.mk (blk_below (g:=gb620) (o:=.cells #[.int .i64 ((rd_T56 l1 x23_2).f0),.int .i64 ((rd_T56 l1 x23_2).f1),.int .i64 ((rd_T56 l1 x23_2).f2)] 56 (0,0)) (by (with_reducible repeat (first|refine blk_drewN ?_ _|refine blk_drew ?_|refine blk_alloc ?_ _));refine blk_far ?_ (by have h_:=Kd.R_ne HO_5.out BK620.out (by decide);intro e_;exact h_ (by rw [e_];rfl)) _;(with_reducible repeat (first|refine blk_drewN ?_ _|refine blk_drew ?_|refine blk_alloc ?_ _));exact BK620.out) hb);have n5_:=Aside0.mk (blk_below (g:=gb623) (o:=.cells #[.int .i64 ((rd_T88 l0_1 ((rd_T56 l1 x23_2).f1)).f0),.int .i64 ((rd_T88 l0_1 ((rd_T56 l1 x23_2).f1)).f1)] 88 (0,0)) (by (with_reducible repeat (first|refine blk_drewN ?_ _|refine blk_drew ?_|refine blk_alloc ?_ _));refine blk_far ?_ (by have h_:=Kd.R_ne HO_5.out BK623.out (by decide);intro e_;exact h_ (by rw [e_];rfl)) _;(with_reducible repeat (first|refine blk_drewN ?_ _|refine blk_drew ?_|refine blk_alloc ?_ _));exact BK623.out) hb);have n6_:=Aside0.mk (below_step (by repeat (first|(with_reducible first|exact HB.out|apply below_alloc|apply pw_below_drewN|apply below_drew1|refine below_set ?_ GB41.out|refine below_set ?_ GE614.out|refine below_set ?_ GE620.out|refine below_set ?_ GE623.out)|exact HB.out)) hb);clear HO_5;clear HO_6;clear BK614;clear BK620;clear BK623;clear HB;have HO_5:=n0_;have HO_6:=n1_;have HO636:=n2_;have BK614:=n3_;have BK620:=n4_;have BK623:=n5_;have HB:=n6_;clear n0_ n1_ n2_ n3_ n4_ n5_ n6_;(try clear hb);(try clear hb2);(try clear hk);(try clear hi);(try clear ho0);obtain ⟨Ao82,co82,eo82⟩:=Kd.R_slice HO636.out;subst eo82)|((with_reducible refine gate_builtin (b:=.append) (xs:=#[.tmp 65,.tmp 68]) rfl ?_);(try (refine gate_guard (by rfl) ?_;dsimp only));at_builtin;refine Kd.S_append (Kd.slice 3 (Kd.int .i64)) (w0:=w) w.heap.size rfl (.tmp 65) (.tmp 68) 73 59 (.slice none 0 0) 24 rfl Try.underlying73 info59 rfl (by decide) (by omega) u6 x6_2 t634 [.slice Ao82 t634.length co82] (fun k_=>some k_ ≠ (.slice (some ⟨go41,0,none⟩) x5_2.length co77:Value).ownBlock) (fun k_=>some k_=(.slice Ao82 t634.length co82:Value).ownBlock) rfl rfl ?aP (fun k_ hk_=>((Kd.R_mono (ok':=fun k_=>((fun k_=>some k_ ≠ (.slice (some ⟨go41,0,none⟩) x5_2.length co77:Value).ownBlock)) k_∧some k_ ≠ (u6:Value).ownBlock) (Kd.R_apart' (HO636.out) (Kd.S_typed HO_6.out) (by decide)) (fun k_ hk=>⟨hk.1.2,hk.2⟩))).1 k_ hk_.symm) ?aF ?aO ?aB ?aS ?aL ?_;(case aP=>exact Kd.M_row (Kd.R_mono (Kd.R_tight rfl (Kd.R_mono (ok':=fun k_=>((fun k_=>some k_ ≠ (.slice (some ⟨go41,0,none⟩) x5_2.length co77:Value).ownBlock)) k_∧some k_ ≠ (u6:Value).ownBlock) (Kd.R_apart' (HO636.out) (Kd.S_typed HO_6.out) (by decide)) (fun k_ hk=>⟨hk.1.2,hk.2⟩))) (fun _ h_=>h_)));(case aB=>exact (by repeat (first|(with_reducible first|exact HB.out|apply below_alloc|apply pw_below_drewN|apply below_drew1|refine below_set ?_ GE614.out|refine below_set ?_ GE620.out|refine below_set ?_ GE623.out)|exact HB.out)));(case aF=>exact (fun k_ hk=>Kd.fresh' (Kd.R_lt (by (with_reducible repeat (first|apply Kd.R_alloc|apply Kd.R_drewN|apply Kd.R_drew));exact HO_5.out)) k_ hk));(case aO=>exact (by (with_reducible repeat (first|apply Kd.S_alloc|apply Kd.S_drewN|apply Kd.S_drew));exact Kd.S_mono HO_6.out (fun k_ hk=>⟨hk.1,fun e_=>hk.2 e_⟩)));(case aS=>exact (below_size (by repeat (first|(with_reducible first|exact HB.out|apply below_alloc|apply pw_below_drewN|apply below_drew1|refine below_set ?_ GE614.out|refine below_set ?_ GE620.out|refine below_set ?_ GE623.out)|exact HB.out))));(case aL=>have:=LMc67.out;omega);intro v638 w81 ho hb hg hat;rw [← Ny637.out] at ho;have n0_:=Aside0.mk (Kd.R_over' (by (with_reducible repeat (first|apply Kd.R_alloc|apply Kd.R_drewN|apply Kd.R_drew));exact HO_5.out) (Kd.S_typed (by (with_reducible repeat (first|apply Kd.S_alloc|apply Kd.S_drewN|apply Kd.S_drew));exact HO_6.out)) (by decide) hg);have n1_:=Aside0.mk (blk_grown (g:=gb614) (o:=.cells #[.int .i64 a0_0,.slice (some ad622) l0_1.length c0_1] 30 (0,0)) (by (with_reducible repeat (first|refine blk_drewN ?_ _|refine blk_drew ?_|refine blk_alloc ?_ _));exact BK614.out) hg (Kd.S_ne HO_6.out BK614.out (by decide)));have n2_:=Aside0.mk (blk_grown (g:=gb620) (o:=.cells #[.int .i64 ((rd_T56 l1 x23_2).f0),.int .i64 ((rd_T56 l1 x23_2).f1),.int .i64 ((rd_T56 l1 x23_2).f2)] 56 (0,0)) (by (with_reducible repeat (first|refine blk_drewN ?_ _|refine blk_drew ?_|refine blk_alloc ?_ _));exact BK620.out) hg (Kd.S_ne HO_6.out BK620.out (by decide)));have n3_:=Aside0.mk (blk_grown (g:=gb623) (o:=.cells #[.int .i64 ((rd_T88 l0_1 ((rd_T56 l1 x23_2).f1)).f0),.int .i64 ((rd_T88 l0_1 ((rd_T56 l1 x23_2).f1)).f1)] 88 (0,0)) (by (with_reducible repeat (first|refine blk_drewN ?_ _|refine blk_drew ?_|refine blk_alloc ?_ _));exact BK623.out) hg (Kd.S_ne HO_6.out BK623.out (by decide)));have n4_:=Aside0.mk (hb);have n5_:=Aside0.mk (ho);clear HO_5;clear BK614;clear BK620;clear BK623;clear HB;clear HO_6;clear HO636;have HO_5:=n0_;have BK614:=n1_;have BK620:=n2_;have BK623:=n3_;have HB:=n4_;have HO639:=n5_;clear n0_ n1_ n2_ n3_ n4_ n5_;clear ho hb hg hat))
                   go_roundg kj19
                   case measure=>have:=HJ2.out;have:=HK2.out;have:=HJ19.out;omega
                   case rel=>exact ⟨(y625),(y637),(wrap64 (x23_2+1)),(by first|rfl|(simp;done)|(simp [*];done)),H',⟨by have:=HJ2.out;have:=HK2.out;have:=HJ19.out;omega⟩,⟨by exact Kd.R_mono HO_5.out (fun _ hk=>trivial)⟩,⟨by exact HO639.out⟩,⟨by exact BK614.out⟩,⟨by exact HB.out⟩⟩
                  rw [if_neg c67] at H
                  exact absurd H (by simp)
                 rw [if_neg c40] at H
                 exact absurd H (by simp)
                rw [if_neg c39] at H
                exact absurd H (by simp)
               rw [if_neg c38] at H
               have c38b0:decide (0≤((rd_T88 l0_1 ((rd_T56 l1 x23_2).f1)).f0))=false:=decide_eq_false c38
               clear c38
               by_cases c83:((rd_T88 l0_1 ((rd_T56 l1 x23_2).f1)).f1) ≥ 0
               ·rw [if_pos c83] at H
                have c83b0:decide (0≤((rd_T88 l0_1 ((rd_T56 l1 x23_2).f1)).f1))=true:=decide_eq_true c83
                clear c83
                by_cases c84:0≤((rd_T88 l0_1 ((rd_T56 l1 x23_2).f1)).f1)
                ·rw [if_pos c84] at H
                 have c84b0:decide (0≤((rd_T88 l0_1 ((rd_T56 l1 x23_2).f1)).f1))=true:=decide_eq_true c84
                 clear c84
                 by_cases c85:((rd_T88 l0_1 ((rd_T56 l1 x23_2).f1)).f1)<(x5_2.length:Int)
                 ·rw [if_pos c85] at H
                  have c85b0:decide (((rd_T88 l0_1 ((rd_T56 l1 x23_2).f1)).f1)<(x5_2.length:Int))=true:=decide_eq_true c85
                  clear c85
                  obtain ⟨y641,hy641⟩:∃ y_:List Int,y_=(x5_2.set (((rd_T88 l0_1 ((rd_T56 l1 x23_2).f1)).f1):Int).toNat (wrap64 ((rd x5_2 ((rd_T88 l0_1 ((rd_T56 l1 x23_2).f1)).f1))+((rd_T56 l1 x23_2).f2)))):=⟨_,rfl⟩
                  replace H:((slices_Clone_int_int.f y641).bind fun t642=>(if x6_2.length<5864062014805 then (impl_Truth.l0 kj19 y641 (x6_2 ++ [t642]) l1 (l1.length:Int) (wrap64 (x23_2+1)) a0_0 l0_1) else (none)))=some r:=by first|(rw [hy641];with_reducible exact H)|(have H2_:=(Option.bind_some _ _).symm.trans H;rw [hy641];with_reducible exact H2_)|(have H2_:=(Option.bind_some _ _).symm.trans H;with_reducible exact H2_)|with_reducible exact H|(rw [hy641];exact H)|exact H
                  have Ny641:=Aside0.mk hy641
                  clear hy641
                  replace H:=Option.bind_eq_some_iff.mp H
                  obtain ⟨t642,A870,H⟩:=H
                  replace H:(if x6_2.length<5864062014805 then (impl_Truth.l0 kj19 y641 (x6_2 ++ [t642]) l1 (l1.length:Int) (wrap64 (x23_2+1)) a0_0 l0_1) else (none))=some r:=H
                  have A87:=Aside0.mk A870
                  clear A870
                  by_cases c88:x6_2.length<5864062014805
                  ·rw [if_pos c88] at H
                   have LMc88:=Aside0.mk c88
                   clear c88
                   obtain ⟨y645,hy645⟩:∃ y_:List (List Int),y_=(x6_2 ++ [t642]):=⟨_,rfl⟩
                   replace H:(impl_Truth.l0 kj19 y641 y645 l1 (l1.length:Int) (wrap64 (x23_2+1)) a0_0 l0_1)=some r:=by first|(rw [hy645];with_reducible exact H)|(have H2_:=(Option.bind_some _ _).symm.trans H;rw [hy645];with_reducible exact H2_)|(have H2_:=(Option.bind_some _ _).symm.trans H;with_reducible exact H2_)|with_reducible exact H|(rw [hy645];exact H)|exact H
                   have Ny645:=Aside0.mk hy645
                   clear hy645
                   have H':=Aside0.mk H
                   clear H
                   have hnb89:=NB614_620.out
                   have hnc89:=NB620_614.out
                   have hcz90_0:wc.cell? ⟨gb614,0,none⟩=some (.int .i64 a0_0):=(blk_cell BK614.out 0).trans rfl
                   have hcz90_1:wc.cell? ⟨gb614,1,none⟩=some (.slice A0_1 l0_1.length c0_1):=(blk_cell BK614.out 1).trans rfl
                   have hfz90_0:=blk_frozen BK614.out 0
                   have hfz90_1:=blk_frozen BK614.out 1
                   have hcz91_0:wc.cell? ⟨gb620,0,none⟩=some (.int .i64 ((rd_T56 l1 x23_2).f0)):=(blk_cell BK620.out 0).trans rfl
                   have hcz91_1:wc.cell? ⟨gb620,1,none⟩=some (.int .i64 ((rd_T56 l1 x23_2).f1)):=(blk_cell BK620.out 1).trans rfl
                   have hcz91_2:wc.cell? ⟨gb620,2,none⟩=some (.int .i64 ((rd_T56 l1 x23_2).f2)):=(blk_cell BK620.out 2).trans rfl
                   have hfz91_0:=blk_frozen BK620.out 0
                   have hfz91_1:=blk_frozen BK620.out 1
                   have hfz91_2:=blk_frozen BK620.out 2
                   have p622:0≤(((rd_T56 l1 x23_2).f1):Int):=of_decide_eq_true (by first|(with_reducible assumption)|assumption)
                   have q622:((rd_T56 l1 x23_2).f1)<(l0_1.length:Int):=of_decide_eq_true (by first|(with_reducible assumption)|assumption)
                   obtain ⟨ad622,e622,hx622_0,hx622_1⟩:=at_T88 HR0_1.out ((rd_T56 l1 x23_2).f1) p622 q622
                   cases e622
                   replace hx622_0:=(HB.out.cell (World.block_lt_of_cell? w _ hx622_0)).trans hx622_0
                   replace hx622_1:=(HB.out.cell (World.block_lt_of_cell? w _ hx622_1)).trans hx622_1
                   replace p622:=eq_true p622
                   replace q622:=eq_true q622
                   try go_wp2_with (first|((with_reducible refine gate_dst (N:=9) rfl ?_);(try (refine gate_guard (by rfl) ?_;dsimp only));refine box_event ?hg (N:=9) ?hd (cs:=#[.int .i64 0,.int .i64 0]) (t:=88) ?hr ?_;(case hd=>rfl);(case hg=>rfl);(case hr=>first|(go_simp;done)|(go_simp;rfl));intro gb623 hg w92 hbox hb;have n0_:=Aside0.mk (Kd.R_below (by exact HO_5.out) hb);have n1_:=Aside0.mk (Kd.S_below (by exact HO_6.out) hb);have n2_:=Aside0.mk (blk_below (g:=gb614) (o:=.cells #[.int .i64 a0_0,.slice (some ad622) l0_1.length c0_1] 30 (0,0)) (by exact BK614.out) hb);have n3_:=Aside0.mk (blk_below (g:=gb620) (o:=.cells #[.int .i64 ((rd_T56 l1 x23_2).f0),.int .i64 ((rd_T56 l1 x23_2).f1),.int .i64 ((rd_T56 l1 x23_2).f2)] 56 (0,0)) (by exact BK620.out) hb);have n4_:=Aside0.mk (below_step (by exact HB.out) hb);have n5_:=Aside0.mk (hbox);have n6_:=Aside0.mk ((by rw [hg];exact (below_size (by exact HB.out)):w.heap.size≤gb623));have n7_:=Aside0.mk ((by rw [hg];exact (below_size (by exact HB.out)):w.heap.size≤gb623));have n8_:=Aside0.mk ((by rw [hg];exact Nat.ne_of_lt (blk_lt (g:=gb614) (o:=.cells #[.int .i64 a0_0,.slice (some ad622) l0_1.length c0_1] 30 (0,0)) (by exact BK614.out)):gb614 ≠ gb623));have n9_:=Aside0.mk ((by rw [hg];exact Nat.ne_of_gt (blk_lt (g:=gb614) (o:=.cells #[.int .i64 a0_0,.slice (some ad622) l0_1.length c0_1] 30 (0,0)) (by exact BK614.out)):gb623 ≠ gb614));have n10_:=Aside0.mk ((by rw [hg];exact Nat.ne_of_lt (blk_lt (g:=gb620) (o:=.cells #[.int .i64 ((rd_T56 l1 x23_2).f0),.int .i64 ((rd_T56 l1 x23_2).f1),.int .i64 ((rd_T56 l1 x23_2).f2)] 56 (0,0)) (by exact BK620.out)):gb620 ≠ gb623));have n11_:=Aside0.mk ((by rw [hg];exact Nat.ne_of_gt (blk_lt (g:=gb620) (o:=.cells #[.int .i64 ((rd_T56 l1 x23_2).f0),.int .i64 ((rd_T56 l1 x23_2).f1),.int .i64 ((rd_T56 l1 x23_2).f2)] 56 (0,0)) (by exact BK620.out)):gb623 ≠ gb620));clear HO_5;clear HO_6;clear BK614;clear BK620;clear HB;have HO_5:=n0_;have HO_6:=n1_;have BK614:=n2_;have BK620:=n3_;have HB:=n4_;have BK623:=n5_;have GW623:=n6_;have GE623:=n7_;have NB614_623:=n8_;have NB623_614:=n9_;have NB620_623:=n10_;have NB623_620:=n11_;clear n0_ n1_ n2_ n3_ n4_ n5_ n6_ n7_ n8_ n9_ n10_ n11_;clear hb hbox hg;have hnb93:=NB623_614.out;have hnc93:=NB614_623.out;have hnb94:=NB623_620.out;have hnc94:=NB620_623.out;have hcz95_0:w92.cell? ⟨gb623,0,none⟩=some (.int .i64 0):=(blk_cell BK623.out 0).trans rfl;have hcz95_1:w92.cell? ⟨gb623,1,none⟩=some (.int .i64 0):=(blk_cell BK623.out 1).trans rfl;have hfz95_0:=blk_frozen BK623.out 0;have hfz95_1:=blk_frozen BK623.out 1))
                   have n0_:Aside0 (Kd.R (Kd.int .i64) 3 ((w92.setCell ⟨gb623,0,none⟩ (.int .i64 ((rd_T88 l0_1 ((rd_T56 l1 x23_2).f1)).f0))).setCell ⟨gb623,1,none⟩ (.int .i64 ((rd_T88 l0_1 ((rd_T56 l1 x23_2).f1)).f1))) w.heap.size (fun _=>True) v617 x5_2):=⟨by exact Kd.R_mono (Kd.R_far (p:=⟨gb623,1,none⟩) (Kd.R_far (p:=⟨gb623,0,none⟩) (Kd.R_types HO_5.out BK623.out (by decide)) (fun _ hk=>hk.2) (.int .i64 ((rd_T88 l0_1 ((rd_T56 l1 x23_2).f1)).f0))) (fun _ hk=>hk.2) (.int .i64 ((rd_T88 l0_1 ((rd_T56 l1 x23_2).f1)).f1))) (fun _ hk=>trivial)⟩
                   have n1_:Aside0 (Kd.S (Kd.slice 3 (Kd.int .i64)) 59 ((w92.setCell ⟨gb623,0,none⟩ (.int .i64 ((rd_T88 l0_1 ((rd_T56 l1 x23_2).f1)).f0))).setCell ⟨gb623,1,none⟩ (.int .i64 ((rd_T88 l0_1 ((rd_T56 l1 x23_2).f1)).f1))) w.heap.size (fun k_=>some k_ ≠ (v617:Value).ownBlock) u6 x6_2):=⟨by exact Kd.S_mono (Kd.S_far (p:=⟨gb623,1,none⟩) (Kd.S_far (p:=⟨gb623,0,none⟩) (Kd.S_types HO_6.out BK623.out (by decide)) (fun _ hk=>hk.2) (.int .i64 ((rd_T88 l0_1 ((rd_T56 l1 x23_2).f1)).f0))) (fun _ hk=>hk.2) (.int .i64 ((rd_T88 l0_1 ((rd_T56 l1 x23_2).f1)).f1))) (fun _ hk=>hk.1)⟩
                   have n2_:Aside0 (((w92.setCell ⟨gb623,0,none⟩ (.int .i64 ((rd_T88 l0_1 ((rd_T56 l1 x23_2).f1)).f0))).setCell ⟨gb623,1,none⟩ (.int .i64 ((rd_T88 l0_1 ((rd_T56 l1 x23_2).f1)).f1))).heap[gb614]?=some (.cells #[.int .i64 a0_0,.slice (some ad622) l0_1.length c0_1] 30 (0,0))):=⟨by (with_reducible repeat (first|refine blk_drewN ?_ _|refine blk_drew ?_|refine blk_alloc ?_ _));refine blk_far ?_ NB614_623.out _;(with_reducible repeat (first|refine blk_drewN ?_ _|refine blk_drew ?_|refine blk_alloc ?_ _));refine blk_far ?_ NB614_623.out _;(with_reducible repeat (first|refine blk_drewN ?_ _|refine blk_drew ?_|refine blk_alloc ?_ _));exact BK614.out⟩
                   have n3_:Aside0 (((w92.setCell ⟨gb623,0,none⟩ (.int .i64 ((rd_T88 l0_1 ((rd_T56 l1 x23_2).f1)).f0))).setCell ⟨gb623,1,none⟩ (.int .i64 ((rd_T88 l0_1 ((rd_T56 l1 x23_2).f1)).f1))).heap[gb620]?=some (.cells #[.int .i64 ((rd_T56 l1 x23_2).f0),.int .i64 ((rd_T56 l1 x23_2).f1),.int .i64 ((rd_T56 l1 x23_2).f2)] 56 (0,0))):=⟨by (with_reducible repeat (first|refine blk_drewN ?_ _|refine blk_drew ?_|refine blk_alloc ?_ _));refine blk_far ?_ NB620_623.out _;(with_reducible repeat (first|refine blk_drewN ?_ _|refine blk_drew ?_|refine blk_alloc ?_ _));refine blk_far ?_ NB620_623.out _;(with_reducible repeat (first|refine blk_drewN ?_ _|refine blk_drew ?_|refine blk_alloc ?_ _));exact BK620.out⟩
                   have n4_:Aside0 (((w92.setCell ⟨gb623,0,none⟩ (.int .i64 ((rd_T88 l0_1 ((rd_T56 l1 x23_2).f1)).f0))).setCell ⟨gb623,1,none⟩ (.int .i64 ((rd_T88 l0_1 ((rd_T56 l1 x23_2).f1)).f1))).heap[gb623]?=some (.cells #[.int .i64 ((rd_T88 l0_1 ((rd_T56 l1 x23_2).f1)).f0),.int .i64 ((rd_T88 l0_1 ((rd_T56 l1 x23_2).f1)).f1)] 88 (0,0))):=⟨by (with_reducible repeat (first|refine blk_drewN ?_ _|refine blk_drew ?_|refine blk_alloc ?_ _));refine blk_put (cs:=#[.int .i64 ((rd_T88 l0_1 ((rd_T56 l1 x23_2).f1)).f0),.int .i64 0]) ?_ 1 _ rfl;(with_reducible repeat (first|refine blk_drewN ?_ _|refine blk_drew ?_|refine blk_alloc ?_ _));refine blk_put (cs:=#[.int .i64 0,.int .i64 0]) ?_ 0 _ rfl;(with_reducible repeat (first|refine blk_drewN ?_ _|refine blk_drew ?_|refine blk_alloc ?_ _));exact BK623.out⟩
                   have n5_:Aside0 (Below w.heap.size w ((w92.setCell ⟨gb623,0,none⟩ (.int .i64 ((rd_T88 l0_1 ((rd_T56 l1 x23_2).f1)).f0))).setCell ⟨gb623,1,none⟩ (.int .i64 ((rd_T88 l0_1 ((rd_T56 l1 x23_2).f1)).f1)))):=⟨by repeat (first|(with_reducible first|exact HB.out|apply below_alloc|apply pw_below_drewN|apply below_drew1|refine below_set ?_ GE614.out|refine below_set ?_ GE620.out|refine below_set ?_ GE623.out)|exact HB.out)⟩
                   (try clear HO_5)
                   (try clear HO_6)
                   (try clear BK614)
                   (try clear BK620)
                   (try clear BK623)
                   (try clear HB)
                   generalize ((w92.setCell ⟨gb623,0,none⟩ (.int .i64 ((rd_T88 l0_1 ((rd_T56 l1 x23_2).f1)).f0))).setCell ⟨gb623,1,none⟩ (.int .i64 ((rd_T88 l0_1 ((rd_T56 l1 x23_2).f1)).f1)))=w96 at n0_ n1_ n2_ n3_ n4_ n5_ ⊢
                   have HO_5:=n0_
                   have HO_6:=n1_
                   have BK614:=n2_
                   have BK620:=n3_
                   have BK623:=n4_
                   have HB:=n5_
                   clear n0_ n1_ n2_ n3_ n4_ n5_
                   have n0_:=Aside0.mk (Kd.R_drew HO_5.out)
                   have n1_:=Aside0.mk (Kd.S_drew HO_6.out)
                   have n2_:=Aside0.mk (blk_drew BK614.out)
                   have n3_:=Aside0.mk (blk_drew BK620.out)
                   have n4_:=Aside0.mk (blk_drew BK623.out)
                   have n5_:=Aside0.mk (below_drew1 HB.out)
                   clear HO_5
                   clear HO_6
                   clear BK614
                   clear BK620
                   clear BK623
                   clear HB
                   have HO_5:=n0_
                   have HO_6:=n1_
                   have BK614:=n2_
                   have BK620:=n3_
                   have BK623:=n4_
                   have HB:=n5_
                   clear n0_ n1_ n2_ n3_ n4_ n5_
                   obtain ⟨Ao98,co98,eo98⟩:=Kd.R_slice HO_5.out
                   (first|subst eo98|(injection eo98 with f1_ f2_ f3_;have f4_:=f1_.symm;have f5_:=f3_.symm;clear f1_ f2_ f3_;subst f4_;subst f5_))
                   have p640:0≤(((rd_T88 l0_1 ((rd_T56 l1 x23_2).f1)).f1):Int):=of_decide_eq_true (by first|(with_reducible assumption)|assumption)
                   have q640:((rd_T88 l0_1 ((rd_T56 l1 x23_2).f1)).f1)<(x5_2.length:Int):=of_decide_eq_true (by first|(with_reducible assumption)|assumption)
                   obtain ⟨ad640,e640,hx640_0⟩:=Kd.at_int (Kd.R_reads' HO_5.out).2.2 ((rd_T88 l0_1 ((rd_T56 l1 x23_2).f1)).f1) p640 q640
                   cases e640
                   replace p640:=eq_true p640
                   replace q640:=eq_true q640
                   have p86:0≤(((rd_T88 l0_1 ((rd_T56 l1 x23_2).f1)).f1):Int):=of_decide_eq_true (by first|(with_reducible assumption)|assumption)
                   have q86:(((rd_T88 l0_1 ((rd_T56 l1 x23_2).f1)).f1):Int)<((x5_2.length:Int):Int):=of_decide_eq_true (by first|(with_reducible assumption)|assumption)
                   obtain ⟨go86,co86,eo86,gb86,gl86,cl86,HG86⟩:=Kd.R_form HO_5.out (by omega)
                   (first|cases eo86|(injection eo86 with ea_ en_ ec_;(first|subst ea_|(injection ea_ with ea_;subst ea_));subst ec_;clear en_))
                   have GB86:=Aside0.mk gb86
                   have GG86:=Aside0.mk HG86
                   clear gb86 gl86 HG86
                   (first|simp only [add_plain] at hx640_0|skip)
                   obtain ⟨hx86_0,hf86_0⟩:=Kd.R_celln 0 HO_5.out (((rd_T88 l0_1 ((rd_T56 l1 x23_2).f1)).f1):Int) p86 q86
                   replace p86:=eq_true p86
                   replace q86:=eq_true q86
                   have HP99:=Kd.R_putn HO_5.out (((rd_T88 l0_1 ((rd_T56 l1 x23_2).f1)).f1):Int) (wrap64 ((rd x5_2 ((rd_T88 l0_1 ((rd_T56 l1 x23_2).f1)).f1))+((rd_T56 l1 x23_2).f2)))
                   rw [← Ny641.out] at HP99
                   have HQ99:=Aside0.mk HP99
                   clear HP99
                   refine start_ (n:=10) (S:=fun w'=>w'.cell? ⟨gb623,0,none⟩=some (.int .i64 ((rd_T88 l0_1 ((rd_T56 l1 x23_2).f1)).f0))∧w'.cell? ⟨gb623,1,none⟩=some (.int .i64 ((rd_T88 l0_1 ((rd_T56 l1 x23_2).f1)).f1))∧w'.cell? ⟨gb620,0,none⟩=some (.int .i64 ((rd_T56 l1 x23_2).f0))∧w'.cell? ⟨gb620,1,none⟩=some (.int .i64 ((rd_T56 l1 x23_2).f1))∧w'.cell? ⟨gb620,2,none⟩=some (.int .i64 ((rd_T56 l1 x23_2).f2))∧w'.cell? ⟨go86,(((rd_T88 l0_1 ((rd_T56 l1 x23_2).f1)).f1)).toNat,none⟩=some (.int .i64 (rd x5_2 ((rd_T88 l0_1 ((rd_T56 l1 x23_2).f1)).f1)))) (ds:=[9]) #[false,false,false,false,false,false,false,false,false,false] (by kernel_rfl) rfl rfl ⟨(blk_cell BK623.out 0).trans rfl,(blk_cell BK623.out 1).trans rfl,(blk_cell BK620.out 0).trans rfl,(blk_cell BK620.out 1).trans rfl,(blk_cell BK620.out 2).trans rfl,hx640_0⟩ (fun hHeld=>?_);refine with_tabW impl_Truth.tab13 impl_Truth.bits13 (fun HT_ HW_=>?_)
                   generalize w96.drew=w97 at HO_5 HO_6 BK614 BK620 BK623 HB GG86 HQ99 hf86_0 hx640_0 hx86_0 hHeld ⊢
                   refine pure_ (i:=0) (N:=some 56) (v:=?_) (a':=?_) #[true,false,false,false,false,false,false,false,false,false] rfl rfl (any_of HT_.out (by kernel_rfl)) (fun _ _ _ h=>h) (Or.inl ⟨by rfl,?_⟩) ?_ ?_
                   rotate_left
                   ·intro w'
                    go_simp
                    with_reducible rfl
                   rotate_left
                   ·simp only [Act.put,List.setIfInBounds_toArray,List.set_cons_zero,List.set_cons_succ,i64_w,i32_w]
                    rfl
                   refine pure_ (i:=1) (N:=some 57) (v:=?_) (a':=?_) #[true,true,false,false,false,false,false,false,false,false] rfl rfl (any_of HT_.out (by kernel_rfl)) (fun _ _ _ h=>h) (Or.inl ⟨by rfl,?_⟩) ?_ ?_
                   rotate_left
                   ·intro w'
                    go_simp
                    with_reducible rfl
                   rotate_left
                   ·simp only [Act.put,List.setIfInBounds_toArray,List.set_cons_zero,List.set_cons_succ,i64_w,i32_w]
                    rfl
                   refine pure_ (i:=5) (N:=some 61) (v:=?_) (a':=?_) #[true,true,false,false,false,true,false,false,false,false] rfl rfl (any_of HT_.out (by kernel_rfl)) (fun _ _ _ h=>h) (Or.inl ⟨by rfl,?_⟩) ?_ ?_
                   rotate_left
                   ·intro w'
                    go_simp
                    with_reducible rfl
                   rotate_left
                   ·simp only [Act.put,List.setIfInBounds_toArray,List.set_cons_zero,List.set_cons_succ,i64_w,i32_w]
                    rfl
                   refine take_ (i:=2) (N:=some 58) (v:=?_) (a':=?_) #[true,true,true,false,false,true,false,false,false,false] rfl rfl (take_ofW HT_.out HW_.out (by kernel_rfl)) (fun _ _ _ h=>h) (Or.inl ⟨by rfl,?_⟩) hHeld ?_ ?_
                   rotate_left
                   ·rintro w' ⟨s0,s1,s2,s3,s4,s5⟩
                    go_simp
                    with_reducible rfl
                   rotate_left
                   ·simp only [Act.put,List.setIfInBounds_toArray,List.set_cons_zero,List.set_cons_succ,i64_w,i32_w]
                    rfl
                   refine pure_ (i:=3) (N:=some 59) (v:=?_) (a':=?_) #[true,true,true,true,false,true,false,false,false,false] rfl rfl (any_of HT_.out (by kernel_rfl)) (fun _ _ _ h=>h) (Or.inl ⟨by rfl,?_⟩) ?_ ?_
                   rotate_left
                   ·intro w'
                    go_simp
                    with_reducible rfl
                   rotate_left
                   ·simp only [Act.put,List.setIfInBounds_toArray,List.set_cons_zero,List.set_cons_succ,i64_w,i32_w]
                    rfl
                   refine take_ (i:=4) (N:=some 60) (v:=?_) (a':=?_) #[true,true,true,true,true,true,false,false,false,false] rfl rfl (take_ofW HT_.out HW_.out (by kernel_rfl)) (fun _ _ _ h=>h) (Or.inl ⟨by rfl,?_⟩) hHeld ?_ ?_
                   rotate_left
                   ·rintro w' ⟨s0,s1,s2,s3,s4,s5⟩
                    go_simp
                    with_reducible rfl
                   rotate_left
                   ·simp only [Act.put,List.setIfInBounds_toArray,List.set_cons_zero,List.set_cons_succ,i64_w,i32_w]
                    rfl
                   refine take_ (i:=6) (N:=some 62) (v:=?_) (a':=?_) #[true,true,true,true,true,true,true,false,false,false] rfl rfl (take_ofW HT_.out HW_.out (by kernel_rfl)) (fun _ _ _ h=>h) (Or.inl ⟨by rfl,?_⟩) hHeld ?_ ?_
                   rotate_left
                   ·rintro w' ⟨s0,s1,s2,s3,s4,s5⟩
                    go_simp
                    with_reducible rfl
                   rotate_left
                   ·simp only [Act.put,List.setIfInBounds_toArray,List.set_cons_zero,List.set_cons_succ,i64_w,i32_w]
                    rfl
                   refine pure_ (i:=7) (N:=some 63) (v:=?_) (a':=?_) #[true,true,true,true,true,true,true,true,false,false] rfl rfl (any_of HT_.out (by kernel_rfl)) (fun _ _ _ h=>h) (Or.inl ⟨by rfl,?_⟩) ?_ ?_
                   rotate_left
                   ·intro w'
                    go_simp
                    with_reducible rfl
                   rotate_left
                   ·simp only [Act.put,List.setIfInBounds_toArray,List.set_cons_zero,List.set_cons_succ,i64_w,i32_w]
                    rfl
                   refine pure_ (i:=8) (N:=some 64) (v:=?_) (a':=?_) #[true,true,true,true,true,true,true,true,true,false] rfl rfl (any_of HT_.out (by kernel_rfl)) (fun _ _ _ h=>h) (Or.inl ⟨by rfl,?_⟩) ?_ ?_
                   rotate_left
                   ·intro w'
                    go_simp
                    with_reducible rfl
                   rotate_left
                   ·simp only [Act.put,List.setIfInBounds_toArray,List.set_cons_zero,List.set_cons_succ,i64_w,i32_w]
                    rfl
                   refine last_ (i:=9) (N:=none) #[true,true,true,true,true,true,true,true,true,true] rfl rfl (one_of HT_.out (by kernel_rfl)) (by decide) (fun K hK=>?_)
                   refine skip_ (w1:=?_) (by rfl) rfl ?_ ?_
                   rotate_left
                   ·go_simp
                    rfl
                   refine hK.out _ _ ?_
                   clear hK K
                   refine done_ (done_of HT_.out (by kernel_rfl)) ?_
                   try go_wp2_with (first|((with_reducible refine gate_callee (f:=110) rfl ?_);refine goesL_ (some 67) rfl rfl Try.func110 (by kernel_rfl) rfl #[.slice (some ⟨go86,0,none⟩) y641.length co98] rfl (by (try simp only [List.map_toArray,List.map_cons,List.map_nil]);first|done|(rw [show y641.length=x5_2.length from (Kd.R_reads' HQ99.out).1.symm] <;> rfl)|rfl|(simp only [List.length_drop,List.length_take];rfl)) ?_;(with_reducible refine (slices_Clone_int_int.calls _ _ y641 t642 _ ?side1 ?side2 A87.out).mono ?_);(case side1=>refine (Kd.R_reads' (e:=3) (base:=w.heap.size) (ok:=fun k_=>True) (n:=x5_2.length) (c:=co98) ?_).2.2;exact (by (with_reducible repeat (first|apply Kd.R_alloc|apply Kd.R_drewN|apply Kd.R_drew));exact HQ99.out));(case side2=>rw [show y641.length=x5_2.length from (Kd.R_reads' HQ99.out).1.symm];exact (Kd.R_reads' HO_5.out).2.1);rintro e w100 ⟨v643,rfl,ho0,hb⟩;refine ⟨_,rfl,?_⟩;have n0_:=Aside0.mk (Kd.R_elder' (by (with_reducible repeat (first|apply Kd.R_alloc|apply Kd.R_drewN|apply Kd.R_drew));exact HQ99.out) (Kd.R_base ho0) hb);have n1_:=Aside0.mk (Kd.S_elder' (by (with_reducible repeat (first|apply Kd.S_alloc|apply Kd.S_drewN|apply Kd.S_drew));exact (Kd.S_mono (Kd.S_far (p:=⟨go86,(((rd_T88 l0_1 ((rd_T56 l1 x23_2).f1)).f1):Int).toNat,none⟩) (Kd.S_mono HO_6.out (fun k_ hk=>(⟨hk,fun e_=>hk (by rw [e_];rfl)⟩:_∧k_ ≠ go86))) (fun _ hk=>hk.2) (.int .i64 (wrap64 ((rd x5_2 ((rd_T88 l0_1 ((rd_T56 l1 x23_2).f1)).f1))+((rd_T56 l1 x23_2).f2))))) (fun _ h_=>h_.1))) (Kd.R_base ho0) hb);have n2_:=Aside0.mk (Kd.R_lower (Kd.R_new' ho0 (Kd.R_lt (by (with_reducible repeat (first|apply Kd.R_alloc|apply Kd.R_drewN|apply Kd.R_drew));exact HQ99.out))) (below_size (by repeat (first|(with_reducible first|exact HB.out|apply below_alloc|apply pw_below_drewN|apply below_drew1|refine below_set ?_ GB86.out|refine below_set ?_ GE614.out|refine below_set ?_ GE620.out|refine below_set ?_ GE623.out)|exact HB.out))));have n3_:=Aside0.mk (blk_below (g:=gb614) (o:=.cells #[.int .i64 a0_0,.slice (some ad622) l0_1.length c0_1] 30 (0,0)) (by (with_reducible repeat (first|refine blk_drewN ?_ _|refine blk_drew ?_|refine blk_alloc ?_ _));refine blk_far ?_ (by have h_:=Kd.R_ne HO_5.out BK614.out (by decide);intro e_;exact h_ (by rw [e_];rfl)) _;(with_reducible repeat (first|refine blk_drewN ?_ _|refine blk_drew ?_|refine blk_alloc ?_ _));exact BK614.out) hb);have n4_:=Aside0.mk (blk_below (g:=gb620) (o:=.cells #[.int .i64 ((rd_T56 l1 x23_2).f0),.int .i64 ((rd_T56 l1 x23_2).f1),.int .i64 ((rd_T56 l1 x23_2).f2)] 56 (0,0)) (by (with_reducible repeat (first|refine blk_drewN ?_ _|refine blk_drew ?_|refine blk_alloc ?_ _));refine blk_far ?_ (by have h_:=Kd.R_ne HO_5.out BK620.out (by decide);intro e_;exact h_ (by rw [e_];rfl)) _;(with_reducible repeat (first|refine blk_drewN ?_ _|refine blk_drew ?_|refine blk_alloc ?_ _));exact BK620.out) hb);have n5_:=Aside0.mk (blk_below (g:=gb623) (o:=.cells #[.int .i64 ((rd_T88 l0_1 ((rd_T56 l1 x23_2).f1)).f0),.int .i64 ((rd_T88 l0_1 ((rd_T56 l1 x23_2).f1)).f1)] 88 (0,0)) (by (with_reducible repeat (first|refine blk_drewN ?_ _|refine blk_drew ?_|refine blk_alloc ?_ _));refine blk_far ?_ (by have h_:=Kd.R_ne HO_5.out BK623.out (by decide);intro e_;exact h_ (by rw [e_];rfl)) _;(with_reducible repeat (first|refine blk_drewN ?_ _|refine blk_drew ?_|refine blk_alloc ?_ _));exact BK623.out) hb);have n6_:=Aside0.mk (below_step (by repeat (first|(with_reducible first|exact HB.out|apply below_alloc|apply pw_below_drewN|apply below_drew1|refine below_set ?_ GB86.out|refine below_set ?_ GE614.out|refine below_set ?_ GE620.out|refine below_set ?_ GE623.out)|exact HB.out)) hb);clear HO_5;clear HO_6;clear BK614;clear BK620;clear BK623;clear HB;have HO_5:=n0_;have HO_6:=n1_;have HO644:=n2_;have BK614:=n3_;have BK620:=n4_;have BK623:=n5_;have HB:=n6_;clear n0_ n1_ n2_ n3_ n4_ n5_ n6_;(try clear hb);(try clear hb2);(try clear hk);(try clear hi);(try clear ho0);obtain ⟨Ao102,co102,eo102⟩:=Kd.R_slice HO644.out;subst eo102)|((with_reducible refine gate_builtin (b:=.append) (xs:=#[.tmp 65,.tmp 68]) rfl ?_);(try (refine gate_guard (by rfl) ?_;dsimp only));at_builtin;refine Kd.S_append (Kd.slice 3 (Kd.int .i64)) (w0:=w) w.heap.size rfl (.tmp 65) (.tmp 68) 73 59 (.slice none 0 0) 24 rfl Try.underlying73 info59 rfl (by decide) (by omega) u6 x6_2 t642 [.slice Ao102 t642.length co102] (fun k_=>some k_ ≠ (.slice (some ⟨go86,0,none⟩) x5_2.length co98:Value).ownBlock) (fun k_=>some k_=(.slice Ao102 t642.length co102:Value).ownBlock) rfl rfl ?aP (fun k_ hk_=>((Kd.R_mono (ok':=fun k_=>((fun k_=>some k_ ≠ (.slice (some ⟨go86,0,none⟩) x5_2.length co98:Value).ownBlock)) k_∧some k_ ≠ (u6:Value).ownBlock) (Kd.R_apart' (HO644.out) (Kd.S_typed HO_6.out) (by decide)) (fun k_ hk=>⟨hk.1.2,hk.2⟩))).1 k_ hk_.symm) ?aF ?aO ?aB ?aS ?aL ?_;(case aP=>exact Kd.M_row (Kd.R_mono (Kd.R_tight rfl (Kd.R_mono (ok':=fun k_=>((fun k_=>some k_ ≠ (.slice (some ⟨go86,0,none⟩) x5_2.length co98:Value).ownBlock)) k_∧some k_ ≠ (u6:Value).ownBlock) (Kd.R_apart' (HO644.out) (Kd.S_typed HO_6.out) (by decide)) (fun k_ hk=>⟨hk.1.2,hk.2⟩))) (fun _ h_=>h_)));(case aB=>exact (by repeat (first|(with_reducible first|exact HB.out|apply below_alloc|apply pw_below_drewN|apply below_drew1|refine below_set ?_ GE614.out|refine below_set ?_ GE620.out|refine below_set ?_ GE623.out)|exact HB.out)));(case aF=>exact (fun k_ hk=>Kd.fresh' (Kd.R_lt (by (with_reducible repeat (first|apply Kd.R_alloc|apply Kd.R_drewN|apply Kd.R_drew));exact HO_5.out)) k_ hk));(case aO=>exact (by (with_reducible repeat (first|apply Kd.S_alloc|apply Kd.S_drewN|apply Kd.S_drew));exact Kd.S_mono HO_6.out (fun k_ hk=>⟨hk.1,fun e_=>hk.2 e_⟩)));(case aS=>exact (below_size (by repeat (first|(with_reducible first|exact HB.out|apply below_alloc|apply pw_below_drewN|apply below_drew1|refine below_set ?_ GE614.out|refine below_set ?_ GE620.out|refine below_set ?_ GE623.out)|exact HB.out))));(case aL=>have:=LMc88.out;omega);intro v646 w101 ho hb hg hat;rw [← Ny645.out] at ho;have n0_:=Aside0.mk (Kd.R_over' (by (with_reducible repeat (first|apply Kd.R_alloc|apply Kd.R_drewN|apply Kd.R_drew));exact HO_5.out) (Kd.S_typed (by (with_reducible repeat (first|apply Kd.S_alloc|apply Kd.S_drewN|apply Kd.S_drew));exact HO_6.out)) (by decide) hg);have n1_:=Aside0.mk (blk_grown (g:=gb614) (o:=.cells #[.int .i64 a0_0,.slice (some ad622) l0_1.length c0_1] 30 (0,0)) (by (with_reducible repeat (first|refine blk_drewN ?_ _|refine blk_drew ?_|refine blk_alloc ?_ _));exact BK614.out) hg (Kd.S_ne HO_6.out BK614.out (by decide)));have n2_:=Aside0.mk (blk_grown (g:=gb620) (o:=.cells #[.int .i64 ((rd_T56 l1 x23_2).f0),.int .i64 ((rd_T56 l1 x23_2).f1),.int .i64 ((rd_T56 l1 x23_2).f2)] 56 (0,0)) (by (with_reducible repeat (first|refine blk_drewN ?_ _|refine blk_drew ?_|refine blk_alloc ?_ _));exact BK620.out) hg (Kd.S_ne HO_6.out BK620.out (by decide)));have n3_:=Aside0.mk (blk_grown (g:=gb623) (o:=.cells #[.int .i64 ((rd_T88 l0_1 ((rd_T56 l1 x23_2).f1)).f0),.int .i64 ((rd_T88 l0_1 ((rd_T56 l1 x23_2).f1)).f1)] 88 (0,0)) (by (with_reducible repeat (first|refine blk_drewN ?_ _|refine blk_drew ?_|refine blk_alloc ?_ _));exact BK623.out) hg (Kd.S_ne HO_6.out BK623.out (by decide)));have n4_:=Aside0.mk (hb);have n5_:=Aside0.mk (ho);clear HO_5;clear BK614;clear BK620;clear BK623;clear HB;clear HO_6;clear HO644;have HO_5:=n0_;have BK614:=n1_;have BK620:=n2_;have BK623:=n3_;have HB:=n4_;have HO647:=n5_;clear n0_ n1_ n2_ n3_ n4_ n5_;clear ho hb hg hat))
                   go_roundg kj19
                   case measure=>have:=HJ2.out;have:=HK2.out;have:=HJ19.out;omega
                   case rel=>exact ⟨(y641),(y645),(wrap64 (x23_2+1)),(by first|rfl|(simp;done)|(simp [*];done)),H',⟨by have:=HJ2.out;have:=HK2.out;have:=HJ19.out;omega⟩,⟨by (with_reducible repeat (first|apply Kd.R_alloc|apply Kd.R_drewN|apply Kd.R_drew));exact Kd.R_mono HO_5.out (fun _ hk=>trivial)⟩,⟨by (with_reducible repeat (first|apply Kd.S_alloc|apply Kd.S_drewN|apply Kd.S_drew));exact HO647.out⟩,⟨by (with_reducible repeat (first|refine blk_drewN ?_ _|refine blk_drew ?_|refine blk_alloc ?_ _));exact BK614.out⟩,⟨by repeat (first|(with_reducible first|exact HB.out|apply below_alloc|apply pw_below_drewN|apply below_drew1|refine below_set ?_ GE614.out|refine below_set ?_ GE620.out|refine below_set ?_ GE623.out)|exact HB.out)⟩⟩
                  rw [if_neg c88] at H
                  exact absurd H (by simp)
                 rw [if_neg c85] at H
                 exact absurd H (by simp)
                rw [if_neg c84] at H
                exact absurd H (by simp)
               rw [if_neg c83] at H
               have c83b0:decide (0≤((rd_T88 l0_1 ((rd_T56 l1 x23_2).f1)).f1))=false:=decide_eq_false c83
               clear c83
               replace H:=Option.bind_eq_some_iff.mp H
               obtain ⟨t648,A1030,H⟩:=H
               replace H:(if x6_2.length<5864062014805 then (impl_Truth.l0 kj19 x5_2 (x6_2 ++ [t648]) l1 (l1.length:Int) (wrap64 (x23_2+1)) a0_0 l0_1) else (none))=some r:=H
               have A103:=Aside0.mk A1030
               clear A1030
               by_cases c104:x6_2.length<5864062014805
               ·rw [if_pos c104] at H
                have LMc104:=Aside0.mk c104
                clear c104
                obtain ⟨y651,hy651⟩:∃ y_:List (List Int),y_=(x6_2 ++ [t648]):=⟨_,rfl⟩
                replace H:(impl_Truth.l0 kj19 x5_2 y651 l1 (l1.length:Int) (wrap64 (x23_2+1)) a0_0 l0_1)=some r:=by first|(rw [hy651];with_reducible exact H)|(have H2_:=(Option.bind_some _ _).symm.trans H;rw [hy651];with_reducible exact H2_)|(have H2_:=(Option.bind_some _ _).symm.trans H;with_reducible exact H2_)|with_reducible exact H|(rw [hy651];exact H)|exact H
                have Ny651:=Aside0.mk hy651
                clear hy651
                have H':=Aside0.mk H
                clear H
                have hnb105:=NB614_620.out
                have hnc105:=NB620_614.out
                have hcz106_0:wc.cell? ⟨gb614,0,none⟩=some (.int .i64 a0_0):=(blk_cell BK614.out 0).trans rfl
                have hcz106_1:wc.cell? ⟨gb614,1,none⟩=some (.slice A0_1 l0_1.length c0_1):=(blk_cell BK614.out 1).trans rfl
                have hfz106_0:=blk_frozen BK614.out 0
                have hfz106_1:=blk_frozen BK614.out 1
                have hcz107_0:wc.cell? ⟨gb620,0,none⟩=some (.int .i64 ((rd_T56 l1 x23_2).f0)):=(blk_cell BK620.out 0).trans rfl
                have hcz107_1:wc.cell? ⟨gb620,1,none⟩=some (.int .i64 ((rd_T56 l1 x23_2).f1)):=(blk_cell BK620.out 1).trans rfl
                have hcz107_2:wc.cell? ⟨gb620,2,none⟩=some (.int .i64 ((rd_T56 l1 x23_2).f2)):=(blk_cell BK620.out 2).trans rfl
                have hfz107_0:=blk_frozen BK620.out 0
                have hfz107_1:=blk_frozen BK620.out 1
                have hfz107_2:=blk_frozen BK620.out 2
                have p622:0≤(((rd_T56 l1 x23_2).f1):Int):=of_decide_eq_true (by first|(with_reducible assumption)|assumption)
                have q622:((rd_T56 l1 x23_2).f1)<(l0_1.length:Int):=of_decide_eq_true (by first|(with_reducible assumption)|assumption)
                obtain ⟨ad622,e622,hx622_0,hx622_1⟩:=at_T88 HR0_1.out ((rd_T56 l1 x23_2).f1) p622 q622
                cases e622
                replace hx622_0:=(HB.out.cell (World.block_lt_of_cell? w _ hx622_0)).trans hx622_0
                replace hx622_1:=(HB.out.cell (World.block_lt_of_cell? w _ hx622_1)).trans hx622_1
                replace p622:=eq_true p622
                replace q622:=eq_true q622
                go_wp2_with (first|((with_reducible refine gate_dst (N:=9) rfl ?_);(try (refine gate_guard (by rfl) ?_;dsimp only));refine box_event ?hg (N:=9) ?hd (cs:=#[.int .i64 0,.int .i64 0]) (t:=88) ?hr ?_;(case hd=>rfl);(case hg=>rfl);(case hr=>first|(go_simp;done)|(go_simp;rfl));intro gb623 hg w108 hbox hb;have n0_:=Aside0.mk (Kd.R_below (by (with_reducible repeat (first|apply Kd.R_alloc|apply Kd.R_drewN|apply Kd.R_drew));exact HO_5.out) hb);have n1_:=Aside0.mk (Kd.S_below (by (with_reducible repeat (first|apply Kd.S_alloc|apply Kd.S_drewN|apply Kd.S_drew));exact HO_6.out) hb);have n2_:=Aside0.mk (blk_below (g:=gb614) (o:=.cells #[.int .i64 a0_0,.slice (some ad622) l0_1.length c0_1] 30 (0,0)) (by (with_reducible repeat (first|refine blk_drewN ?_ _|refine blk_drew ?_|refine blk_alloc ?_ _));exact BK614.out) hb);have n3_:=Aside0.mk (blk_below (g:=gb620) (o:=.cells #[.int .i64 ((rd_T56 l1 x23_2).f0),.int .i64 ((rd_T56 l1 x23_2).f1),.int .i64 ((rd_T56 l1 x23_2).f2)] 56 (0,0)) (by (with_reducible repeat (first|refine blk_drewN ?_ _|refine blk_drew ?_|refine blk_alloc ?_ _));exact BK620.out) hb);have n4_:=Aside0.mk (below_step (by repeat (first|(with_reducible first|exact HB.out|apply below_alloc|apply pw_below_drewN|apply below_drew1|refine below_set ?_ GE614.out|refine below_set ?_ GE620.out)|exact HB.out)) hb);have n5_:=Aside0.mk (hbox);have n6_:=Aside0.mk ((by rw [hg];exact (below_size (by repeat (first|(with_reducible first|exact HB.out|apply below_alloc|apply pw_below_drewN|apply below_drew1|refine below_set ?_ GE614.out|refine below_set ?_ GE620.out)|exact HB.out))):w.heap.size≤gb623));have n7_:=Aside0.mk ((by rw [hg];exact (below_size (by repeat (first|(with_reducible first|exact HB.out|apply below_alloc|apply pw_below_drewN|apply below_drew1|refine below_set ?_ GE614.out|refine below_set ?_ GE620.out)|exact HB.out))):w.heap.size≤gb623));have n8_:=Aside0.mk ((by rw [hg];exact Nat.ne_of_lt (blk_lt (g:=gb614) (o:=.cells #[.int .i64 a0_0,.slice (some ad622) l0_1.length c0_1] 30 (0,0)) (by (with_reducible repeat (first|refine blk_drewN ?_ _|refine blk_drew ?_|refine blk_alloc ?_ _));exact BK614.out)):gb614 ≠ gb623));have n9_:=Aside0.mk ((by rw [hg];exact Nat.ne_of_gt (blk_lt (g:=gb614) (o:=.cells #[.int .i64 a0_0,.slice (some ad622) l0_1.length c0_1] 30 (0,0)) (by (with_reducible repeat (first|refine blk_drewN ?_ _|refine blk_drew ?_|refine blk_alloc ?_ _));exact BK614.out)):gb623 ≠ gb614));have n10_:=Aside0.mk ((by rw [hg];exact Nat.ne_of_lt (blk_lt (g:=gb620) (o:=.cells #[.int .i64 ((rd_T56 l1 x23_2).f0),.int .i64 ((rd_T56 l1 x23_2).f1),.int .i64 ((rd_T56 l1 x23_2).f2)] 56 (0,0)) (by (with_reducible repeat (first|refine blk_drewN ?_ _|refine blk_drew ?_|refine blk_alloc ?_ _));exact BK620.out)):gb620 ≠ gb623));have n11_:=Aside0.mk ((by rw [hg];exact Nat.ne_of_gt (blk_lt (g:=gb620) (o:=.cells #[.int .i64 ((rd_T56 l1 x23_2).f0),.int .i64 ((rd_T56 l1 x23_2).f1),.int .i64 ((rd_T56 l1 x23_2).f2)] 56 (0,0)) (by (with_reducible repeat (first|refine blk_drewN ?_ _|refine blk_drew ?_|refine blk_alloc ?_ _));exact BK620.out)):gb623 ≠ gb620));clear HO_5;clear HO_6;clear BK614;clear BK620;clear HB;have HO_5:=n0_;have HO_6:=n1_;have BK614:=n2_;have BK620:=n3_;have HB:=n4_;have BK623:=n5_;have GW623:=n6_;have GE623:=n7_;have NB614_623:=n8_;have NB623_614:=n9_;have NB620_623:=n10_;have NB623_620:=n11_;clear n0_ n1_ n2_ n3_ n4_ n5_ n6_ n7_ n8_ n9_ n10_ n11_;clear hb hbox hg;have hnb109:=NB623_614.out;have hnc109:=NB614_623.out;have hnb110:=NB623_620.out;have hnc110:=NB620_623.out;have hcz111_0:w108.cell? ⟨gb623,0,none⟩=some (.int .i64 0):=(blk_cell BK623.out 0).trans rfl;have hcz111_1:w108.cell? ⟨gb623,1,none⟩=some (.int .i64 0):=(blk_cell BK623.out 1).trans rfl;have hfz111_0:=blk_frozen BK623.out 0;have hfz111_1:=blk_frozen BK623.out 1;obtain ⟨Ao112,co112,eo112⟩:=Kd.R_slice HO_5.out;subst eo112)|((with_reducible refine gate_callee (f:=110) rfl ?_);refine goesL_ (some 67) rfl rfl Try.func110 (by kernel_rfl) rfl #[.slice Ao112 x5_2.length co112] rfl (by (try simp only [List.map_toArray,List.map_cons,List.map_nil]);first|done|rfl|(simp only [List.length_drop,List.length_take];rfl)) ?_;(with_reducible refine (slices_Clone_int_int.calls _ _ x5_2 t648 _ ?side1 ?side2 A103.out).mono ?_);(case side1=>refine (Kd.R_reads' (e:=3) (base:=w.heap.size) (ok:=fun k_=>True) (n:=x5_2.length) (c:=co112) ?_).2.2;exact (by (with_reducible repeat (first|apply Kd.R_alloc|apply Kd.R_drewN|apply Kd.R_drew));exact (Kd.R_mono (Kd.R_far (p:=⟨gb623,1,none⟩) (Kd.R_far (p:=⟨gb623,0,none⟩) (Kd.R_types HO_5.out BK623.out (by decide)) (fun _ hk=>hk.2) (.int .i64 ((rd_T88 l0_1 ((rd_T56 l1 x23_2).f1)).f0))) (fun _ hk=>hk.2) (.int .i64 ((rd_T88 l0_1 ((rd_T56 l1 x23_2).f1)).f1))) (fun _ h_=>h_.1))));(case side2=>exact (Kd.R_reads' HO_5.out).2.1);rintro e w113 ⟨v649,rfl,ho0,hb⟩;refine ⟨_,rfl,?_⟩;have n0_:=Aside0.mk (Kd.R_elder' (by (with_reducible repeat (first|apply Kd.R_alloc|apply Kd.R_drewN|apply Kd.R_drew));exact (Kd.R_mono (Kd.R_far (p:=⟨gb623,1,none⟩) (Kd.R_far (p:=⟨gb623,0,none⟩) (Kd.R_types HO_5.out BK623.out (by decide)) (fun _ hk=>hk.2) (.int .i64 ((rd_T88 l0_1 ((rd_T56 l1 x23_2).f1)).f0))) (fun _ hk=>hk.2) (.int .i64 ((rd_T88 l0_1 ((rd_T56 l1 x23_2).f1)).f1))) (fun _ h_=>h_.1))) (Kd.R_base ho0) hb);have n1_:=Aside0.mk (Kd.S_elder' (by (with_reducible repeat (first|apply Kd.S_alloc|apply Kd.S_drewN|apply Kd.S_drew));exact (Kd.S_mono (Kd.S_far (p:=⟨gb623,1,none⟩) (Kd.S_far (p:=⟨gb623,0,none⟩) (Kd.S_types HO_6.out BK623.out (by decide)) (fun _ hk=>hk.2) (.int .i64 ((rd_T88 l0_1 ((rd_T56 l1 x23_2).f1)).f0))) (fun _ hk=>hk.2) (.int .i64 ((rd_T88 l0_1 ((rd_T56 l1 x23_2).f1)).f1))) (fun _ h_=>h_.1))) (Kd.R_base ho0) hb);have n2_:=Aside0.mk (Kd.R_lower (Kd.R_new' ho0 (Kd.R_lt (by (with_reducible repeat (first|apply Kd.R_alloc|apply Kd.R_drewN|apply Kd.R_drew));exact (Kd.R_mono (Kd.R_far (p:=⟨gb623,1,none⟩) (Kd.R_far (p:=⟨gb623,0,none⟩) (Kd.R_types HO_5.out BK623.out (by decide)) (fun _ hk=>hk.2) (.int .i64 ((rd_T88 l0_1 ((rd_T56 l1 x23_2).f1)).f0))) (fun _ hk=>hk.2) (.int .i64 ((rd_T88 l0_1 ((rd_T56 l1 x23_2).f1)).f1))) (fun _ h_=>h_.1))))) (below_size (by repeat (first|(with_reducible first|exact HB.out|apply below_alloc|apply pw_below_drewN|apply below_drew1|refine below_set ?_ GE614.out|refine below_set ?_ GE620.out|refine below_set ?_ GE623.out)|exact HB.out))));have n3_:=Aside0.mk (blk_below (g:=gb614) (o:=.cells #[.int .i64 a0_0,.slice (some ad622) l0_1.length c0_1] 30 (0,0)) (by (with_reducible repeat (first|refine blk_drewN ?_ _|refine blk_drew ?_|refine blk_alloc ?_ _));refine blk_far ?_ NB614_623.out _;(with_reducible repeat (first|refine blk_drewN ?_ _|refine blk_drew ?_|refine blk_alloc ?_ _));refine blk_far ?_ NB614_623.out _;(with_reducible repeat (first|refine blk_drewN ?_ _|refine blk_drew ?_|refine blk_alloc ?_ _));exact BK614.out) hb);have n4_:=Aside0.mk (blk_below (g:=gb620) (o:=.cells #[.int .i64 ((rd_T56 l1 x23_2).f0),.int .i64 ((rd_T56 l1 x23_2).f1),.int .i64 ((rd_T56 l1 x23_2).f2)] 56 (0,0)) (by (with_reducible repeat (first|refine blk_drewN ?_ _|refine blk_drew ?_|refine blk_alloc ?_ _));refine blk_far ?_ NB620_623.out _;(with_reducible repeat (first|refine blk_drewN ?_ _|refine blk_drew ?_|refine blk_alloc ?_ _));refine blk_far ?_ NB620_623.out _;(with_reducible repeat (first|refine blk_drewN ?_ _|refine blk_drew ?_|refine blk_alloc ?_ _));exact BK620.out) hb);have n5_:=Aside0.mk (blk_below (g:=gb623) (o:=.cells #[.int .i64 ((rd_T88 l0_1 ((rd_T56 l1 x23_2).f1)).f0),.int .i64 ((rd_T88 l0_1 ((rd_T56 l1 x23_2).f1)).f1)] 88 (0,0)) (by (with_reducible repeat (first|refine blk_drewN ?_ _|refine blk_drew ?_|refine blk_alloc ?_ _));refine blk_put (cs:=#[.int .i64 ((rd_T88 l0_1 ((rd_T56 l1 x23_2).f1)).f0),.int .i64 0]) ?_ 1 _ rfl;(with_reducible repeat (first|refine blk_drewN ?_ _|refine blk_drew ?_|refine blk_alloc ?_ _));refine blk_put (cs:=#[.int .i64 0,.int .i64 0]) ?_ 0 _ rfl;(with_reducible repeat (first|refine blk_drewN ?_ _|refine blk_drew ?_|refine blk_alloc ?_ _));exact BK623.out) hb);have n6_:=Aside0.mk (below_step (by repeat (first|(with_reducible first|exact HB.out|apply below_alloc|apply pw_below_drewN|apply below_drew1|refine below_set ?_ GE614.out|refine below_set ?_ GE620.out|refine below_set ?_ GE623.out)|exact HB.out)) hb);clear HO_5;clear HO_6;clear BK614;clear BK620;clear BK623;clear HB;have HO_5:=n0_;have HO_6:=n1_;have HO650:=n2_;have BK614:=n3_;have BK620:=n4_;have BK623:=n5_;have HB:=n6_;clear n0_ n1_ n2_ n3_ n4_ n5_ n6_;(try clear hb);(try clear hb2);(try clear hk);(try clear hi);(try clear ho0);obtain ⟨Ao115,co115,eo115⟩:=Kd.R_slice HO650.out;subst eo115)|((with_reducible refine gate_builtin (b:=.append) (xs:=#[.tmp 65,.tmp 68]) rfl ?_);(try (refine gate_guard (by rfl) ?_;dsimp only));at_builtin;refine Kd.S_append (Kd.slice 3 (Kd.int .i64)) (w0:=w) w.heap.size rfl (.tmp 65) (.tmp 68) 73 59 (.slice none 0 0) 24 rfl Try.underlying73 info59 rfl (by decide) (by omega) u6 x6_2 t648 [.slice Ao115 t648.length co115] (fun k_=>some k_ ≠ (.slice Ao112 x5_2.length co112:Value).ownBlock) (fun k_=>some k_=(.slice Ao115 t648.length co115:Value).ownBlock) rfl rfl ?aP (fun k_ hk_=>((Kd.R_mono (ok':=fun k_=>((fun k_=>some k_ ≠ (.slice Ao112 x5_2.length co112:Value).ownBlock)) k_∧some k_ ≠ (u6:Value).ownBlock) (Kd.R_apart' (HO650.out) (Kd.S_typed HO_6.out) (by decide)) (fun k_ hk=>⟨hk.1.2,hk.2⟩))).1 k_ hk_.symm) ?aF ?aO ?aB ?aS ?aL ?_;(case aP=>exact Kd.M_row (Kd.R_mono (Kd.R_tight rfl (Kd.R_mono (ok':=fun k_=>((fun k_=>some k_ ≠ (.slice Ao112 x5_2.length co112:Value).ownBlock)) k_∧some k_ ≠ (u6:Value).ownBlock) (Kd.R_apart' (HO650.out) (Kd.S_typed HO_6.out) (by decide)) (fun k_ hk=>⟨hk.1.2,hk.2⟩))) (fun _ h_=>h_)));(case aB=>exact (by repeat (first|(with_reducible first|exact HB.out|apply below_alloc|apply pw_below_drewN|apply below_drew1|refine below_set ?_ GE614.out|refine below_set ?_ GE620.out|refine below_set ?_ GE623.out)|exact HB.out)));(case aF=>exact (fun k_ hk=>Kd.fresh' (Kd.R_lt (by (with_reducible repeat (first|apply Kd.R_alloc|apply Kd.R_drewN|apply Kd.R_drew));exact HO_5.out)) k_ hk));(case aO=>exact (by (with_reducible repeat (first|apply Kd.S_alloc|apply Kd.S_drewN|apply Kd.S_drew));exact Kd.S_mono HO_6.out (fun k_ hk=>⟨hk.1,fun e_=>hk.2 e_⟩)));(case aS=>exact (below_size (by repeat (first|(with_reducible first|exact HB.out|apply below_alloc|apply pw_below_drewN|apply below_drew1|refine below_set ?_ GE614.out|refine below_set ?_ GE620.out|refine below_set ?_ GE623.out)|exact HB.out))));(case aL=>have:=LMc104.out;omega);intro v652 w114 ho hb hg hat;rw [← Ny651.out] at ho;have n0_:=Aside0.mk (Kd.R_over' (by (with_reducible repeat (first|apply Kd.R_alloc|apply Kd.R_drewN|apply Kd.R_drew));exact HO_5.out) (Kd.S_typed (by (with_reducible repeat (first|apply Kd.S_alloc|apply Kd.S_drewN|apply Kd.S_drew));exact HO_6.out)) (by decide) hg);have n1_:=Aside0.mk (blk_grown (g:=gb614) (o:=.cells #[.int .i64 a0_0,.slice (some ad622) l0_1.length c0_1] 30 (0,0)) (by (with_reducible repeat (first|refine blk_drewN ?_ _|refine blk_drew ?_|refine blk_alloc ?_ _));exact BK614.out) hg (Kd.S_ne HO_6.out BK614.out (by decide)));have n2_:=Aside0.mk (blk_grown (g:=gb620) (o:=.cells #[.int .i64 ((rd_T56 l1 x23_2).f0),.int .i64 ((rd_T56 l1 x23_2).f1),.int .i64 ((rd_T56 l1 x23_2).f2)] 56 (0,0)) (by (with_reducible repeat (first|refine blk_drewN ?_ _|refine blk_drew ?_|refine blk_alloc ?_ _));exact BK620.out) hg (Kd.S_ne HO_6.out BK620.out (by decide)));have n3_:=Aside0.mk (blk_grown (g:=gb623) (o:=.cells #[.int .i64 ((rd_T88 l0_1 ((rd_T56 l1 x23_2).f1)).f0),.int .i64 ((rd_T88 l0_1 ((rd_T56 l1 x23_2).f1)).f1)] 88 (0,0)) (by (with_reducible repeat (first|refine blk_drewN ?_ _|refine blk_drew ?_|refine blk_alloc ?_ _));exact BK623.out) hg (Kd.S_ne HO_6.out BK623.out (by decide)));have n4_:=Aside0.mk (hb);have n5_:=Aside0.mk (ho);clear HO_5;clear BK614;clear BK620;clear BK623;clear HB;clear HO_6;clear HO650;have HO_5:=n0_;have BK614:=n1_;have BK620:=n2_;have BK623:=n3_;have HB:=n4_;have HO653:=n5_;clear n0_ n1_ n2_ n3_ n4_ n5_;clear ho hb hg hat))
                go_roundg kj19
                case measure=>have:=HJ2.out;have:=HK2.out;have:=HJ19.out;omega
                case rel=>exact ⟨(x5_2),(y651),(wrap64 (x23_2+1)),(by first|rfl|(simp;done)|(simp [*];done)),H',⟨by have:=HJ2.out;have:=HK2.out;have:=HJ19.out;omega⟩,⟨by exact Kd.R_mono HO_5.out (fun _ hk=>trivial)⟩,⟨by exact HO653.out⟩,⟨by exact BK614.out⟩,⟨by exact HB.out⟩⟩
               rw [if_neg c104] at H
               exact absurd H (by simp)
              rw [if_neg c37] at H
              exact absurd H (by simp)
             rw [if_neg c36] at H
             exact absurd H (by simp)
            replace c35:=Bool.eq_false_iff.mpr c35
            subst c35
            have H1:((slices_Clone_int_int.f x5_2).bind fun t654=>(if x6_2.length<5864062014805 then (impl_Truth.l0 kj19 x5_2 (x6_2 ++ [t654]) l1 (l1.length:Int) (wrap64 (x23_2+1)) a0_0 l0_1) else (none)))=some r:=by rw [if_neg (show ¬ (false=true) by decide)] at H;exact H
            clear H
            have H:=H1
            clear H1
            replace H:=Option.bind_eq_some_iff.mp H
            obtain ⟨t654,A1160,H⟩:=H
            replace H:(if x6_2.length<5864062014805 then (impl_Truth.l0 kj19 x5_2 (x6_2 ++ [t654]) l1 (l1.length:Int) (wrap64 (x23_2+1)) a0_0 l0_1) else (none))=some r:=H
            have A116:=Aside0.mk A1160
            clear A1160
            by_cases c117:x6_2.length<5864062014805
            ·rw [if_pos c117] at H
             have LMc117:=Aside0.mk c117
             clear c117
             obtain ⟨y657,hy657⟩:∃ y_:List (List Int),y_=(x6_2 ++ [t654]):=⟨_,rfl⟩
             replace H:(impl_Truth.l0 kj19 x5_2 y657 l1 (l1.length:Int) (wrap64 (x23_2+1)) a0_0 l0_1)=some r:=by first|(rw [hy657];with_reducible exact H)|(have H2_:=(Option.bind_some _ _).symm.trans H;rw [hy657];with_reducible exact H2_)|(have H2_:=(Option.bind_some _ _).symm.trans H;with_reducible exact H2_)|with_reducible exact H|(rw [hy657];exact H)|exact H
             have Ny657:=Aside0.mk hy657
             clear hy657
             have H':=Aside0.mk H
             clear H
             obtain ⟨Ao118,co118,eo118⟩:=Kd.R_slice HO_5.out
             subst eo118
             go_wp2_with (first|((with_reducible refine gate_callee (f:=110) rfl ?_);refine goesL_ (some 67) rfl rfl Try.func110 (by kernel_rfl) rfl #[.slice Ao118 x5_2.length co118] rfl (by (try simp only [List.map_toArray,List.map_cons,List.map_nil]);first|done|rfl|(simp only [List.length_drop,List.length_take];rfl)) ?_;(with_reducible refine (slices_Clone_int_int.calls _ _ x5_2 t654 _ ?side1 ?side2 A116.out).mono ?_);(case side1=>repeat (first|exact (Kd.R_reads' HO_5.out).2.2|(with_reducible refine Kd.C_alloc ?_ _)|(with_reducible refine Kd.C_drewN ?_ _)|(with_reducible refine Kd.C_drew ?_)));(case side2=>exact (Kd.R_reads' HO_5.out).2.1);rintro e w119 ⟨v655,rfl,ho0,hb⟩;refine ⟨_,rfl,?_⟩;have n0_:=Aside0.mk (Kd.R_elder' (by exact HO_5.out) (Kd.R_base ho0) hb);have n1_:=Aside0.mk (Kd.S_elder' (by exact HO_6.out) (Kd.R_base ho0) hb);have n2_:=Aside0.mk (Kd.R_lower (Kd.R_new' ho0 (Kd.R_lt (by exact HO_5.out))) (below_size (by exact HB.out)));have n3_:=Aside0.mk (blk_below (g:=gb614) (o:=.cells #[.int .i64 a0_0,.slice A0_1 l0_1.length c0_1] 30 (0,0)) (by exact BK614.out) hb);have n4_:=Aside0.mk (blk_below (g:=gb620) (o:=.cells #[.int .i64 ((rd_T56 l1 x23_2).f0),.int .i64 ((rd_T56 l1 x23_2).f1),.int .i64 ((rd_T56 l1 x23_2).f2)] 56 (0,0)) (by exact BK620.out) hb);have n5_:=Aside0.mk (below_step (by exact HB.out) hb);clear HO_5;clear HO_6;clear BK614;clear BK620;clear HB;have HO_5:=n0_;have HO_6:=n1_;have HO656:=n2_;have BK614:=n3_;have BK620:=n4_;have HB:=n5_;clear n0_ n1_ n2_ n3_ n4_ n5_;(try clear hb);(try clear hb2);(try clear hk);(try clear hi);(try clear ho0);obtain ⟨Ao121,co121,eo121⟩:=Kd.R_slice HO656.out;subst eo121)|((with_reducible refine gate_builtin (b:=.append) (xs:=#[.tmp 65,.tmp 68]) rfl ?_);(try (refine gate_guard (by rfl) ?_;dsimp only));at_builtin;refine Kd.S_append (Kd.slice 3 (Kd.int .i64)) (w0:=w) w.heap.size rfl (.tmp 65) (.tmp 68) 73 59 (.slice none 0 0) 24 rfl Try.underlying73 info59 rfl (by decide) (by omega) u6 x6_2 t654 [.slice Ao121 t654.length co121] (fun k_=>some k_ ≠ (.slice Ao118 x5_2.length co118:Value).ownBlock) (fun k_=>some k_=(.slice Ao121 t654.length co121:Value).ownBlock) rfl rfl ?aP (fun k_ hk_=>((Kd.R_mono (ok':=fun k_=>((fun k_=>some k_ ≠ (.slice Ao118 x5_2.length co118:Value).ownBlock)) k_∧some k_ ≠ (u6:Value).ownBlock) (Kd.R_apart' (HO656.out) (Kd.S_typed HO_6.out) (by decide)) (fun k_ hk=>⟨hk.1.2,hk.2⟩))).1 k_ hk_.symm) ?aF ?aO ?aB ?aS ?aL ?_;(case aP=>exact Kd.M_row (Kd.R_mono (Kd.R_tight rfl (Kd.R_mono (ok':=fun k_=>((fun k_=>some k_ ≠ (.slice Ao118 x5_2.length co118:Value).ownBlock)) k_∧some k_ ≠ (u6:Value).ownBlock) (Kd.R_apart' (HO656.out) (Kd.S_typed HO_6.out) (by decide)) (fun k_ hk=>⟨hk.1.2,hk.2⟩))) (fun _ h_=>h_)));(case aB=>exact (by exact HB.out));(case aF=>exact (fun k_ hk=>Kd.fresh' (Kd.R_lt (by exact HO_5.out)) k_ hk));(case aO=>exact (by exact Kd.S_mono HO_6.out (fun k_ hk=>⟨hk.1,fun e_=>hk.2 e_⟩)));(case aS=>exact (below_size (by exact HB.out)));(case aL=>have:=LMc117.out;omega);intro v658 w120 ho hb hg hat;rw [← Ny657.out] at ho;have n0_:=Aside0.mk (Kd.R_over' (by exact HO_5.out) (Kd.S_typed (by exact HO_6.out)) (by decide) hg);have n1_:=Aside0.mk (blk_grown (g:=gb614) (o:=.cells #[.int .i64 a0_0,.slice A0_1 l0_1.length c0_1] 30 (0,0)) (by exact BK614.out) hg (Kd.S_ne HO_6.out BK614.out (by decide)));have n2_:=Aside0.mk (blk_grown (g:=gb620) (o:=.cells #[.int .i64 ((rd_T56 l1 x23_2).f0),.int .i64 ((rd_T56 l1 x23_2).f1),.int .i64 ((rd_T56 l1 x23_2).f2)] 56 (0,0)) (by exact BK620.out) hg (Kd.S_ne HO_6.out BK620.out (by decide)));have n3_:=Aside0.mk (hb);have n4_:=Aside0.mk (ho);clear HO_5;clear BK614;clear BK620;clear HB;clear HO_6;clear HO656;have HO_5:=n0_;have BK614:=n1_;have BK620:=n2_;have HB:=n3_;have HO659:=n4_;clear n0_ n1_ n2_ n3_ n4_;clear ho hb hg hat))
             go_roundg kj19
             case measure=>have:=HJ2.out;have:=HK2.out;have:=HJ19.out;omega
             case rel=>exact ⟨(x5_2),(y657),(wrap64 (x23_2+1)),(by first|rfl|(simp;done)|(simp [*];done)),H',⟨by have:=HJ2.out;have:=HK2.out;have:=HJ19.out;omega⟩,⟨by exact Kd.R_mono HO_5.out (fun _ hk=>trivial)⟩,⟨by exact HO659.out⟩,⟨by exact BK614.out⟩,⟨by exact HB.out⟩⟩
            rw [if_neg c117] at H
            exact absurd H (by simp)
         rw [if_neg c19] at H
         exact absurd H (by simp)
        rw [if_neg c18] at H
        exact absurd H (by simp)
       rw [if_neg c17] at H
       have c17b0:decide (x23_2<(l1.length:Int))=false:=decide_eq_false c17
       clear c17
       obtain rfl:=Option.some.inj H
       go_wp2
       go_ret
       exact ⟨_,by first|rfl|(simp [errW_none,errW_some] <;> rfl)|(simp [*,errW_none,errW_some] <;> rfl),by exact Kd.S_mono HO_6.out (fun _ hk=>trivial),by exact HB.out⟩
    rw [if_neg c13] at H
    exact absurd H (by simp)
   rw [if_neg c12] at H
   exact absurd H (by simp)
end Go.Proofs.Ytpdnabhpkdchjaa.P
namespace Go.Proofs.Ytpdnabhpkdchjaa.P
open Go.RowKit Go.Proofs.YtpdnabhpkdchjaaW.PrintWords Go.Proofs.YtpdnabhpkdchjaaW.PrintLast
set_option linter.unusedVariables false
set_option linter.unusedSimpArgs false
def axle (c : S88) (d : Int) (row : List Int) : List Int :=
  let row1 := if 0 ≤ c.f0 then row.set c.f0.toNat (wrap64 (rd row c.f0 - d)) else row
  if 0 ≤ c.f1 then row1.set c.f1.toNat (wrap64 (rd row1 c.f1 + d)) else row1
def isPass (n : Int) (l : List S88) (e : S56) : Bool := eventOk n l e.f0 e.f1 e.f2 && decide (e.f0 = 1)
def tstep (n : Int) (l : List S88) (row : List Int) (e : S56) : List Int := if isPass n l e then axle (rd_T88 l e.f1) e.f2 row else row
def row0 (n : Int) : List Int := List.replicate n.toNat 0
def truthAt (n : Int) (l : List S88) (es : List S56) (k : Nat) : List Int := (es.take k).foldl (tstep n l) (row0 n)
def truth (n : Int) (l : List S88) (es : List S56) : List (List Int) :=
  if layoutOk n l = 0 ∧ es.length ≤ 2000 then (List.range es.length).map fun k => truthAt n l es (k + 1) else []
theorem axle_length (c : S88) (d : Int) (row : List Int) : (axle c d row).length = row.length := by
  unfold axle
  by_cases h0 : 0 ≤ c.f0 <;> by_cases h1 : 0 ≤ c.f1 <;> simp [h0, h1]
theorem tstep_length (n : Int) (l : List S88) (row : List Int) (e : S56) : (tstep n l row e).length = row.length := by
  unfold tstep
  by_cases h : isPass n l e = true
  · rw [if_pos h, axle_length]
  · rw [if_neg h]
theorem foldl_tstep_length (n : Int) (l : List S88) (es : List S56) : ∀ row : List Int, (es.foldl (tstep n l) row).length = row.length := by
  induction es with
  | nil => intro row; rfl
  | cons e es ih => intro row; rw [List.foldl_cons, ih, tstep_length]
theorem truthAt_length (n : Int) (l : List S88) (es : List S56) (k : Nat) : (truthAt n l es k).length = n.toNat := by
  rw [truthAt, foldl_tstep_length, row0, List.length_replicate]
theorem lay_ctr {n : Int} {l : List S88} (h : layoutOk n l = 0) : ∀ x ∈ l, -1 ≤ x.f0 ∧ x.f0 < n ∧ -1 ≤ x.f1 ∧ x.f1 < n ∧ x.f0 ≠ x.f1 := by
  unfold layoutOk at h
  split at h
  · cases h
  · split at h
    · cases h
    · split at h
      · cases h
      · split at h
        · rename_i hall
          intro x hx
          have := List.all_eq_true.1 hall x hx
          simp only [ctrOk, inB, Bool.and_eq_true, decide_eq_true_eq, Bool.not_eq_true', beq_eq_false_iff_ne] at this
          exact ⟨this.1.1.1, this.1.1.2, this.1.2.1, this.1.2.2, this.2⟩
        · cases h
theorem lay_rd {n : Int} {l : List S88} (h : layoutOk n l = 0) (i : Int) (h0 : 0 ≤ i) (h1 : i < l.length) : -1 ≤ (rd_T88 l i).f0 ∧ (rd_T88 l i).f0 < n ∧ -1 ≤ (rd_T88 l i).f1 ∧ (rd_T88 l i).f1 < n ∧ (rd_T88 l i).f0 ≠ (rd_T88 l i).f1 := by
  refine lay_ctr h _ ?_
  have hlt : i.toNat < l.length := by omega
  have : rd_T88 l i = l[i.toNat] := by simp [rd_T88, hlt]
  rw [this]
  exact List.getElem_mem hlt
theorem isPass_of {n : Int} {l : List S88} {e : S56} (h : isPass n l e = true) : e.f0 = 1 ∧ 0 ≤ e.f1 ∧ e.f1 < l.length ∧ (e.f2 = 1 ∨ e.f2 = -1) ∧ eventOk n l e.f0 e.f1 e.f2 = true := by
  simp only [isPass, Bool.and_eq_true, decide_eq_true_eq] at h
  obtain ⟨h1, h2⟩ := h
  have h1' := h1
  rw [h2, eventOk] at h1
  split at h1
  · simp at h1
    exact ⟨h2, h1.1.1, h1.1.2, h1.2, h1'⟩
  · cases h1
section
variable {n : Int} {l : List S88} {es : List S56} {R : List (List Int)}
theorem rd56 (l : List S56) (i : Nat) (h : i < l.length) : rd_T56 l (i : Int) = l[i] := by simp [rd_T56, h]
end
section
variable {n : Int} {l : List S88} {es : List S56} {R : List (List Int)}
theorem clone_int (l : List Int) (h : l.length ≤ 1000000) : slices_Clone_int_int.f l = some l := by unfold slices_Clone_int_int.f; rw [if_pos h]
theorem implTruth_j2 (hl : layoutOk n l = 0) (out : List (List Int)) (ho : out.length < 5864062014805) (row : List Int) (hrow : row.length = n.toNat) (x22 : Int) (i : Nat) (hi : i < 9223372036854775807) (e : S56) (b : Bool) (hb : b = isPass n l e)
    (h : Ev (fun k => impl_Truth.l0 k (tstep n l row e) (out ++ [tstep n l row e]) es x22 ((i + 1 : Nat) : Int) n l) R) :
    Ev (fun k => impl_Truth.j2 k row out es x22 (i : Int) b n l e.f0 e.f1 e.f2) R := by
  have hn := lay_n hl
  have hlen := tstep_length n l row e
  refine Ev.step (fun k => by simp only [impl_Truth.j2, wrap_succ hi]; rfl) ?_
  cases hp : isPass n l e with
  | false =>
    rw [hp] at hb
    simp only [tstep, hp] at h hlen
    exact Ev.ite_neg (by simp [hb]) (Ev.call (clone_int _ (by omega)) (Ev.ite_pos ho h))
  | true =>
    rw [hp] at hb
    obtain ⟨e0, e1, e2, e3, e4⟩ := isPass_of hp
    obtain ⟨c0, c1, c2, c3, c4⟩ := lay_rd hl e.f1 e1 e2
    refine Ev.ite_pos hb (Ev.ite_pos e1 (Ev.ite_pos e2 ?_))
    simp only [tstep, hp, if_true, axle] at h hlen
    by_cases h0 : 0 ≤ (rd_T88 l e.f1).f0
    · simp only [h0, if_true] at h hlen
      refine Ev.ite_pos h0 (Ev.ite_pos h0 (Ev.ite_pos (by rw [hrow]; omega) ?_))
      simp only [Option.bind_some]
      by_cases h1 : 0 ≤ (rd_T88 l e.f1).f1
      · simp only [h1, if_true] at h hlen
        exact Ev.ite_pos h1 (Ev.ite_pos h1 (Ev.ite_pos (by rw [hrow]; omega) (Ev.call (clone_int _ (by omega)) (Ev.ite_pos ho h))))
      · simp only [h1, if_false] at h hlen
        exact Ev.ite_neg h1 (Ev.call (clone_int _ (by omega)) (Ev.ite_pos ho h))
    · simp only [h0, if_false] at h hlen
      refine Ev.ite_neg h0 ?_
      by_cases h1 : 0 ≤ (rd_T88 l e.f1).f1
      · simp only [h1, if_true] at h hlen
        exact Ev.ite_pos h1 (Ev.ite_pos h1 (Ev.ite_pos (by rw [hrow]; omega) (Ev.call rfl (Ev.call (clone_int _ (by omega)) (Ev.ite_pos ho h)))))
      · simp only [h1, if_false] at h hlen
        exact Ev.ite_neg h1 (Ev.call (clone_int _ (by omega)) (Ev.ite_pos ho h))
theorem truthAt_succ {j : Nat} (h : j < es.length) : truthAt n l es (j + 1) = tstep n l (truthAt n l es j) es[j] := by
  rw [truthAt, List.take_succ_eq_append_getElem h, List.foldl_append]
  rfl
theorem implTruth_l0 (hl : layoutOk n l = 0) (he : es.length ≤ 2000) (d : Nat) : ∀ (j : Nat), j + d = es.length →
    Ev (fun k => impl_Truth.l0 k (truthAt n l es j) ((List.range j).map fun k => truthAt n l es (k + 1)) es (es.length : Int) (j : Int) n l) ((List.range es.length).map fun k => truthAt n l es (k + 1)) := by
  induction d with
  | zero =>
    intro j hj
    refine Ev.step1 fun k => ?_
    simp only [impl_Truth.l0]
    rw [if_neg (by omega), show j = es.length by omega]
  | succ d ih =>
    intro j hj
    have hlt : j < es.length := by omega
    have h2 := ih (j + 1) (by omega)
    rw [List.range_succ, List.map_append, List.map_singleton, truthAt_succ hlt] at h2
    refine Ev.step (fun k => by simp only [impl_Truth.l0, rd56 es j hlt]; rw [if_pos (by omega), if_pos (by omega), if_pos (by omega)]) ?_
    refine Ev.bind (implEventOk_ev n l _ _ _) ?_
    cases hok : eventOk n l es[j].f0 es[j].f1 es[j].f2 with
    | true => exact Ev.ite_pos rfl (implTruth_j2 hl _ (by simp; omega) _ (truthAt_length _ _ _ _) _ j (by omega) es[j] _ (by simp [isPass, hok, beq_dec]) h2)
    | false => exact Ev.ite_neg (by simp) (implTruth_j2 hl _ (by simp; omega) _ (truthAt_length _ _ _ _) _ j (by omega) es[j] _ (by simp [isPass, hok]) h2)
theorem implTruth_ev (n : Int) (l : List S88) (es : List S56) : Ev (fun k => impl_Truth.f k n l es) (truth n l es) := by
  unfold impl_Truth.f truth
  refine Ev.call (show impl_LayoutOk.f n l = some (layoutOk n l) from rfl) ?_
  have key : ∀ b : Bool, b = !(decide (layoutOk n l = 0 ∧ es.length ≤ 2000)) → Ev (fun k => impl_Truth.j0 k es b n l) (if layoutOk n l = 0 ∧ es.length ≤ 2000 then (List.range es.length).map fun k => truthAt n l es (k + 1) else []) := by
    intro b hb
    refine Ev.step (fun k => by simp only [impl_Truth.j0]; rfl) ?_
    by_cases h : layoutOk n l = 0 ∧ es.length ≤ 2000
    · have hn := lay_n h.1
      rw [if_pos h]
      refine Ev.ite_neg (by simp [hb, h]) (Ev.ite_pos (by omega) (Ev.ite_pos (by omega) ?_))
      simpa [truthAt, row0] using implTruth_l0 h.1 h.2 es.length 0 (by omega)
    · rw [if_neg h]
      exact Ev.ite_pos (by rw [hb, decide_eq_false h]; rfl) (Ev.now _)
  by_cases h : layoutOk n l = 0
  · refine Ev.ite_pos h (key _ ?_)
    by_cases h2 : es.length ≤ 2000
    · rw [show decide ((es.length : Int) > 2000) = false from decide_eq_false (by omega), decide_eq_true (show layoutOk n l = 0 ∧ es.length ≤ 2000 from ⟨h, h2⟩)]; rfl
    · rw [show decide ((es.length : Int) > 2000) = true from decide_eq_true (by omega), decide_eq_false (show ¬ (layoutOk n l = 0 ∧ es.length ≤ 2000) from fun c => h2 c.2)]; rfl
  · exact Ev.ite_neg h (key _ (by simp [h]))
end
end Go.Proofs.Ytpdnabhpkdchjaa.P
namespace Go.Proofs.Ytpdnabhpkdchjaa.P
open Go.RowKit Go.Proofs.YtpdnabhpkdchjaaW.PrintWords Go.Proofs.YtpdnabhpkdchjaaW.PrintLast Go.Proofs.YtpdnabhpkdchjaaW.PrintMore
set_option linter.unusedVariables false
section
variable {n : Int} {A : Option Addr} {c : Nat} {l : List S88} {w : World}
theorem lay_is (hr : Kd.C k88 w A l.length l) (hc : l.length ≤ c) : Calls Try.prog 25 #[.agg #[.int .i64 n, .slice A l.length c]] w fun e w' => e = .returned (.int .i64 (layoutOk n l)) ∧ Below w.heap.size w w' :=
  impl_LayoutOk.calls n A c l _ w hr hc rfl
theorem slay_is (hr : Kd.C k88 w A l.length l) (hc : l.length ≤ c) : Calls Try.prog 23 #[.agg #[.int .i64 n, .slice A l.length c]] w fun e w' => e = .returned (.int .i64 (layoutOk n l)) ∧ Below w.heap.size w w' := by
  obtain ⟨k, h⟩ := (specLayoutOk_ev n l).rounds
  exact spec_LayoutOk.calls k n A c l _ w hr hc h
theorem ev_is (op of dir : Int) (hr : Kd.C k88 w A l.length l) (hc : l.length ≤ c) : Calls Try.prog 36 #[.agg #[.int .i64 n, .slice A l.length c], .agg #[.int .i64 op, .int .i64 of, .int .i64 dir]] w fun e w' => e = .returned (.bool (eventOk n l op of dir)) ∧ Below w.heap.size w w' := by
  obtain ⟨k, h⟩ := (implEventOk_ev n l op of dir).rounds
  exact impl_EventOk.calls k n A c l op of dir _ w hr hc h
theorem ev_at {b : Bool} (op of dir : Int) (hb : eventOk n l op of dir = b) (hr : Kd.C k88 w A l.length l) (hc : l.length ≤ c) : Calls Try.prog 36 #[.agg #[.int .i64 n, .slice A l.length c], .agg #[.int .i64 op, .int .i64 of, .int .i64 dir]] w fun e w' => e = .returned (.bool b) ∧ Below w.heap.size w w' := hb ▸ ev_is op of dir hr hc
theorem lay_at {k : Int} (hk : layoutOk n l = k) (hr : Kd.C k88 w A l.length l) (hc : l.length ≤ c) : Calls Try.prog 25 #[.agg #[.int .i64 n, .slice A l.length c]] w fun e w' => e = .returned (.int .i64 k) ∧ Below w.heap.size w w' := hk ▸ lay_is hr hc
variable {A1 : Option Addr} {c1 : Nat} {es : List S56}
theorem truth_is (hr : Kd.C k88 w A l.length l) (hc : l.length ≤ c) (hr1 : Kd.C k56 w A1 es.length es) (hc1 : es.length ≤ c1) : Calls Try.prog 54 #[.agg #[.int .i64 n, .slice A l.length c], .slice A1 es.length c1] w fun e w' => ∃ v0_ : Value, e = .returned (v0_) ∧ Kd.S (Kd.slice 3 (Kd.int .i64)) 59 w' w.heap.size (fun _ => True) v0_ (truth n l es) ∧ Below w.heap.size w w' := by
  obtain ⟨k, h⟩ := (implTruth_ev n l es).rounds
  exact impl_Truth.calls k n A c l A1 c1 es _ w hr hc hr1 hc1 h
end
end Go.Proofs.Ytpdnabhpkdchjaa.P
namespace Go.Proofs.Ytpdnabhpkdchjaa.P
open Go.RowKit Go.Proofs.YtpdnabhpkdchjaaW.PrintWords Go.Proofs.YtpdnabhpkdchjaaW.PrintLast Go.Proofs.YtpdnabhpkdchjaaW.PrintMore
attribute [local go_sem ↓] Go.wp_at_zero Go.wp_at_succ
set_option linter.unusedVariables false
set_option linter.unusedSimpArgs false
structure DoSt (w0 w : World) (gl gs ge gd : Nat) (lv sv ev dv : List Value) (v1 v2 : Value) (ss : List S50) (dd : List Bool) : Prop where
  hl : w.heap[gl]? = some (.cells lv.toArray 30 (0, 0))
  hs : w.heap[gs]? = some (.cells sv.toArray 46 (0, 0))
  he : w.heap[ge]? = some (.cells ev.toArray 56 (0, 0))
  hd : w.heap[gd]? = some (.cells dv.toArray 48 (0, 0))
  H1 : Kd.R k50 50 w w0.heap.size (fun _ => True) v1 ss
  H2 : Kd.R Kd.bool 4 w w0.heap.size (fun _ => True) v2 dd
  hB : Below w0.heap.size w0 w
  gle : w0.heap.size ≤ gl
  gse : w0.heap.size ≤ gs
  gee : w0.heap.size ≤ ge
  gde : w0.heap.size ≤ gd
theorem DoSt.begin {w0 w : World} {gl gs ge gd : Nat} {lv ev dv : List Value} {x0 x1 x2 v0 v1 v2 : Value} {ss : List S50} {dd : List Bool}
    (hl : w.heap[gl]? = some (.cells lv.toArray 30 (0, 0))) (hs : w.heap[gs]? = some (.cells #[x0, x1, x2] 46 (0, 0))) (he : w.heap[ge]? = some (.cells ev.toArray 56 (0, 0))) (hd : w.heap[gd]? = some (.cells dv.toArray 48 (0, 0)))
    (H1 : Kd.R k50 50 w w0.heap.size (fun _ => True) v1 ss) (H2 : Kd.R Kd.bool 4 w w0.heap.size (fun _ => True) v2 dd) (hB : Below w0.heap.size w0 w)
    (gle : w0.heap.size ≤ gl) (gse : w0.heap.size ≤ gs) (gee : w0.heap.size ≤ ge) (gde : w0.heap.size ≤ gd) (n1 : gl ≠ gs) (n2 : ge ≠ gs) (n3 : gd ≠ gs) :
    DoSt w0 (((w.setCell ⟨gs, 0, none⟩ v0).setCell ⟨gs, 1, none⟩ v1).setCell ⟨gs, 2, none⟩ v2) gl gs ge gd lv [v0, v1, v2] ev dv v1 v2 ss dd where
  hl := blk_far (blk_far (blk_far hl n1 _) n1 _) n1 _
  hs := blk_put (blk_put (blk_put hs 0 v0 rfl) 1 v1 rfl) 2 v2 rfl
  he := blk_far (blk_far (blk_far he n2 _) n2 _) n2 _
  hd := blk_far (blk_far (blk_far hd n3 _) n3 _) n3 _
  H1 := R_off rfl (R_off rfl (R_off rfl H1 (Kd.R_ne H1 hs (by decide)) _) (Kd.R_ne H1 hs (by decide)) _) (Kd.R_ne H1 hs (by decide)) _
  H2 := R_off rfl (R_off rfl (R_off rfl H2 (Kd.R_ne H2 hs (by decide)) _) (Kd.R_ne H2 hs (by decide)) _) (Kd.R_ne H2 hs (by decide)) _
  hB := below_set (below_set (below_set hB gse) gse) gse
  gle := gle
  gse := gse
  gee := gee
  gde := gde
theorem cnt_any (s b : Int) (bo : Bool) (g gr n c : Nat) (v2 : Value) (l : List S50) (w : World) (base : Nat) (ok : Nat → Prop) (h1 : s < n)
    (hb : w.heap[g]? = some (.cells #[.bool bo, .slice (some ⟨gr, 0, none⟩) n c, v2] 46 (0, 0))) (HO : Kd.R k50 50 w base ok (.slice (some ⟨gr, 0, none⟩) n c) l) :
    Calls Try.prog 130 #[.int .i64 s, .int .i64 b, .pointer (some ⟨g, 0, none⟩)] w fun e w' => e = .returned (.tuple #[]) ∧ Kd.R k50 50 w' base ok (.slice (some ⟨gr, 0, none⟩) n c) (addS l s b) ∧ w.grownBy w' (some gr) := by
  by_cases h0 : s < 0
  · refine (cnt_out s b _ w h0).mono ?_
    rintro e w' ⟨he, rfl⟩
    exact ⟨he, by rw [addS, if_pos h0]; exact HO, World.grownBy.refl w _⟩
  · rw [addS, if_neg h0]
    exact cnt_calls s b bo g gr n c v2 l w base ok (by omega) h1 hb HO
theorem lose_any (s : Int) (bo : Bool) (g gr n c : Nat) (v2 : Value) (l : List S50) (w : World) (base : Nat) (ok : Nat → Prop) (h1 : s < n)
    (hb : w.heap[g]? = some (.cells #[.bool bo, .slice (some ⟨gr, 0, none⟩) n c, v2] 46 (0, 0))) (HO : Kd.R k50 50 w base ok (.slice (some ⟨gr, 0, none⟩) n c) l) :
    Calls Try.prog 131 #[.int .i64 s, .pointer (some ⟨g, 0, none⟩)] w fun e w' => e = .returned (.tuple #[]) ∧ Kd.R k50 50 w' base ok (.slice (some ⟨gr, 0, none⟩) n c) (loseAt l s) ∧ w.grownBy w' (some gr) := by
  by_cases h0 : s < 0
  · refine (lose_none s _ w h0).mono ?_
    rintro e w' ⟨he, rfl⟩
    exact ⟨he, by rw [loseAt, if_pos h0]; exact HO, World.grownBy.refl w _⟩
  · rw [loseAt, if_neg h0]
    exact lose_calls s bo g gr n c v2 l w base ok (by omega) h1 hb HO
theorem told_at {n : Int} {A : Option Addr} {c : Nat} {l : List S88} {b : Bool} {A1 : Option Addr} {c1 : Nat} {ss : List S50} {A2 : Option Addr} {c2 : Nat} {dd : List Bool} {w : World} (i : Int) (hr : Kd.C k88 w A l.length l) (hc : l.length ≤ c) (hr1 : Kd.C k50 w A1 ss.length ss) (hc1 : ss.length ≤ c1) (hr2 : Kd.C Kd.bool w A2 dd.length dd) (hc2 : dd.length ≤ c2)
    (hl : l.length ≤ 1048576) (hd : dd.length = l.length) (h0 : 0 ≤ i) (h1 : i < ss.length) :
    Calls Try.prog 97 #[.agg #[.int .i64 n, .slice A l.length c], .agg #[.bool b, .slice A1 ss.length c1, .slice A2 dd.length c2], .int .i64 i] w fun e w' => e = .returned (.int .i64 (toldC l dd i (rd_T50 ss i))) ∧ Below w.heap.size w w' := by
  obtain ⟨k, h⟩ := (implTold_ev n l dd b ss i hl hd h0 h1).rounds
  exact impl_told.calls k n A c l b A1 c1 ss A2 c2 dd i _ w hr hc hr1 hc1 hr2 hc2 h
theorem dead_at {n : Int} {A : Option Addr} {c : Nat} {l : List S88} {b : Bool} {A1 : Option Addr} {c1 : Nat} {ss : List S50} {A2 : Option Addr} {c2 : Nat} {dd : List Bool} {w : World} {x : Bool} (i : Int) (hx : deadAt l dd i = x) (hr : Kd.C k88 w A l.length l) (hc : l.length ≤ c) (hr1 : Kd.C k50 w A1 ss.length ss) (hc1 : ss.length ≤ c1) (hr2 : Kd.C Kd.bool w A2 dd.length dd) (hc2 : dd.length ≤ c2)
    (hl : l.length ≤ 1048576) (hd : dd.length = l.length) :
    Calls Try.prog 98 #[.agg #[.int .i64 n, .slice A l.length c], .agg #[.bool b, .slice A1 ss.length c1, .slice A2 dd.length c2], .int .i64 i] w fun e w' => e = .returned (.bool x) ∧ Below w.heap.size w w' := by
  obtain ⟨k, h⟩ := (implDead_ev n l dd b ss i hl hd).rounds
  rw [← hx]
  exact impl_dead.calls k n A c l b A1 c1 ss A2 c2 dd i _ w hr hc hr1 hc1 hr2 hc2 h
theorem bool_at {w : World} {base : Nat} {ok : Nat → Prop} {g n c : Nat} {dd : List Bool} (h : Kd.R Kd.bool 4 w base ok (.slice (some ⟨g, 0, none⟩) n c) dd) (i : Int) (h0 : 0 ≤ i) (h1 : i < n) :
    w.cell? ⟨g, i.toNat, none⟩ = some (.bool (rdOf false dd i)) ∧ w.frozen? ⟨g, i.toNat, none⟩ = false := by
  obtain ⟨ce, hcl, hM, hcc, hfr⟩ := Kd.R_elem h false i h0 h1
  have hM0 : ce = [.bool (dd.getD i.toNat false)] := hM
  subst hM0
  have e : i.toNat * Kd.bool.sz + 0 = i.toNat := by show i.toNat * 1 + 0 = _; omega
  have q1 := hcc 0 _ rfl
  have q2 := hfr 0
  rw [e] at q1 q2
  exact ⟨q1, q2⟩
theorem own_ge {α : Type} {d : Kd α} {e : Nat} {w : World} {base : Nat} {ok : Nat → Prop} {g n c : Nat} {xs : List α} (h : d.R e w base ok (.slice (some ⟨g, 0, none⟩) n c) xs) : base ≤ g := by
  rcases Kd.R_base2 h with h | ⟨k, hk, hb⟩
  · cases h
  · cases hk; exact hb
section
variable {w0 w w' : World} {gl gs ge gd : Nat} {lv sv ev dv : List Value} {v1 v2 : Value} {ss ss' : List S50} {dd dd' : List Bool}
theorem DoSt.sec {gr m cr : Nat} (h : DoSt w0 w gl gs ge gd lv sv ev dv (.slice (some ⟨gr, 0, none⟩) m cr) v2 ss dd) (H1 : Kd.R k50 50 w' w0.heap.size (fun _ => True) (.slice (some ⟨gr, 0, none⟩) m cr) ss') (hg : w.grownBy w' (some gr)) :
    DoSt w0 w' gl gs ge gd lv sv ev dv (.slice (some ⟨gr, 0, none⟩) m cr) v2 ss' dd where
  hl := blk_grown h.hl hg (Kd.R_ne h.H1 h.hl (by decide))
  hs := blk_grown h.hs hg (Kd.R_ne h.H1 h.hs (by decide))
  he := blk_grown h.he hg (Kd.R_ne h.H1 h.he (by decide))
  hd := blk_grown h.hd hg (Kd.R_ne h.H1 h.hd (by decide))
  H1 := H1
  H2 := R_on rfl h.H2 hg (by
    obtain ⟨inner, ho⟩ := Kd.R_own h.H1
    obtain ⟨cells, hc⟩ := own_typed ho gr rfl
    exact Kd.R_ne h.H2 hc (by decide))
  hB := pw_below_grown h.hB _ h.hB.size hg (fun k hk => by cases hk; exact own_ge h.H1)
  gle := h.gle
  gse := h.gse
  gee := h.gee
  gde := h.gde
theorem DoSt.dead {gb m cb : Nat} (h : DoSt w0 w gl gs ge gd lv sv ev dv v1 (.slice (some ⟨gb, 0, none⟩) m cb) ss dd) (i : Int) (x : Bool) :
    DoSt w0 (w.setCell ⟨gb, i.toNat, none⟩ (.bool x)) gl gs ge gd lv sv ev dv v1 (.slice (some ⟨gb, 0, none⟩) m cb) ss (dd.set i.toNat x) := by
  obtain ⟨H2, hg⟩ := Kd.R_putg h.H2 i x
  exact {
  hl := blk_grown h.hl hg (Kd.R_ne h.H2 h.hl (by decide))
  hs := blk_grown h.hs hg (Kd.R_ne h.H2 h.hs (by decide))
  he := blk_grown h.he hg (Kd.R_ne h.H2 h.he (by decide))
  hd := blk_grown h.hd hg (Kd.R_ne h.H2 h.hd (by decide))
  H1 := R_on rfl h.H1 hg (by
    obtain ⟨inner, ho⟩ := Kd.R_own h.H2
    obtain ⟨cells, hc⟩ := own_typed ho gb rfl
    exact Kd.R_ne h.H1 hc (by decide))
  H2 := H2
  hB := pw_below_grown h.hB _ h.hB.size hg (fun k hk => by cases hk; exact own_ge h.H2)
  gle := h.gle
  gse := h.gse
  gee := h.gee
  gde := h.gde }
theorem DoSt.up (h : DoSt w0 w gl gs ge gd lv sv ev dv v1 v2 ss dd) (hb : Below w.heap.size w w') : DoSt w0 w' gl gs ge gd lv sv ev dv v1 v2 ss dd where
  hl := blk_below h.hl hb
  hs := blk_below h.hs hb
  he := blk_below h.he hb
  hd := blk_below h.hd hb
  H1 := R_up h.H1 hb
  H2 := R_up h.H2 hb
  hB := below_step h.hB hb
  gle := h.gle
  gse := h.gse
  gee := h.gee
  gde := h.gde
theorem DoSt.fill {x0 x1 x2 x3 y0 y1 y2 y3 : Value} (h : DoSt w0 w gl gs ge gd lv sv ev [x0, x1, x2, x3] v1 v2 ss dd) :
    DoSt w0 ((((w.setCell ⟨gd, 0, none⟩ y0).setCell ⟨gd, 1, none⟩ y1).setCell ⟨gd, 2, none⟩ y2).setCell ⟨gd, 3, none⟩ y3) gl gs ge gd lv sv ev [y0, y1, y2, y3] v1 v2 ss dd where
  hl := blk_far (blk_far (blk_far (blk_far h.hl (blk_ne h.hl h.hd (by decide)) _) (blk_ne h.hl h.hd (by decide)) _) (blk_ne h.hl h.hd (by decide)) _) (blk_ne h.hl h.hd (by decide)) _
  hs := blk_far (blk_far (blk_far (blk_far h.hs (blk_ne h.hs h.hd (by decide)) _) (blk_ne h.hs h.hd (by decide)) _) (blk_ne h.hs h.hd (by decide)) _) (blk_ne h.hs h.hd (by decide)) _
  he := blk_far (blk_far (blk_far (blk_far h.he (blk_ne h.he h.hd (by decide)) _) (blk_ne h.he h.hd (by decide)) _) (blk_ne h.he h.hd (by decide)) _) (blk_ne h.he h.hd (by decide)) _
  hd := blk_put (blk_put (blk_put (blk_put h.hd 0 y0 rfl) 1 y1 rfl) 2 y2 rfl) 3 y3 rfl
  H1 := R_off rfl (R_off rfl (R_off rfl (R_off rfl h.H1 (Kd.R_ne h.H1 h.hd (by decide)) _) (Kd.R_ne h.H1 h.hd (by decide)) _) (Kd.R_ne h.H1 h.hd (by decide)) _) (Kd.R_ne h.H1 h.hd (by decide)) _
  H2 := R_off rfl (R_off rfl (R_off rfl (R_off rfl h.H2 (Kd.R_ne h.H2 h.hd (by decide)) _) (Kd.R_ne h.H2 h.hd (by decide)) _) (Kd.R_ne h.H2 h.hd (by decide)) _) (Kd.R_ne h.H2 h.hd (by decide)) _
  hB := below_set (below_set (below_set (below_set h.hB h.gde) h.gde) h.gde) h.gde
  gle := h.gle
  gse := h.gse
  gee := h.gee
  gde := h.gde
end
theorem evOk_cases {n : Int} {l : List S88} {op of dir : Int} (h : eventOk n l op of dir = true) :
    ((op = 1 ∨ op = 2) ∧ 0 ≤ of ∧ of < (l.length : Int) ∧ (dir = 1 ∨ dir = -1)) ∨ ((op = 3 ∨ op = 4) ∧ 0 ≤ of ∧ of < (l.length : Int)) ∨ (op = 5 ∧ 0 ≤ of ∧ of < n) := by
  unfold eventOk at h
  split at h
  · split at h
    · rename_i h1
      simp at h
      exact .inl ⟨h1, h.1.1, h.1.2, h.2⟩
    · split at h
      · rename_i h1
        simp at h
        exact .inr (.inl ⟨h1, h.1.1, h.1.2⟩)
      · split at h
        · rename_i h1
          simp at h
          exact .inr (.inr ⟨h1, h.1.1, h.1.2⟩)
        · cases h
  · cases h
theorem told_of {n : Int} {A : Option Addr} {c : Nat} {l : List S88} {b : Bool} {A1 : Option Addr} {m1 c1 : Nat} {ss : List S50} {A2 : Option Addr} {m2 c2 : Nat} {dd : List Bool} {w : World} {b1 b2 : Nat} {o1 o2 : Nat → Prop} (i : Int) (hr : Kd.C k88 w A l.length l) (hc : l.length ≤ c) (H1 : Kd.R k50 50 w b1 o1 (.slice A1 m1 c1) ss) (H2 : Kd.R Kd.bool 4 w b2 o2 (.slice A2 m2 c2) dd) (e1 : m1 = ss.length) (e2 : m2 = dd.length)
    (hl : l.length ≤ 1048576) (hd : dd.length = l.length) (h0 : 0 ≤ i) (h1 : i < m1) :
    Calls Try.prog 97 #[.agg #[.int .i64 n, .slice A l.length c], .agg #[.bool b, .slice A1 m1 c1, .slice A2 m2 c2], .int .i64 i] w fun e w' => e = .returned (.int .i64 (toldC l dd i (rd_T50 ss i))) ∧ Below w.heap.size w w' := by
  subst e1 e2
  exact told_at i hr hc (Kd.R_reads' H1).2.2 (Kd.R_reads' H1).2.1 (Kd.R_reads' H2).2.2 (Kd.R_reads' H2).2.1 hl hd h0 h1
theorem retold_step (l : List S88) (dd : List Bool) (ss : List S50) (k : Nat) (hk : k < ss.length) :
    (retoldTo l dd ss k).set (k : Int).toNat ⟨toldC l dd (k : Int) (rd_T50 (retoldTo l dd ss k) (k : Int)), (rd_T50 (retoldTo l dd ss k) (k : Int)).f1, (rd_T50 (retoldTo l dd ss k) (k : Int)).f2, (rd_T50 (retoldTo l dd ss k) (k : Int)).f3, (rd_T50 (retoldTo l dd ss k) (k : Int)).f4⟩ = retoldTo l dd ss (k + 1) := by
  rw [Int.toNat_natCast, retoldTo_at l dd ss k hk]
  exact retoldTo_succ l dd ss k hk
set_option maxHeartbeats 4000000 in
set_option maxRecDepth 100000 in
theorem do_is (n : Int) (A : Option Addr) (c : Nat) (l : List S88) (b : Bool) (A1 : Option Addr) (c1 : Nat) (ss : List S50) (A2 : Option Addr) (c2 : Nat) (dd : List Bool) (op of dir : Int) (w : World)
    (hr : Kd.C k88 w A l.length l) (hc : l.length ≤ c) (hr1 : Kd.C k50 w A1 ss.length ss) (hc1 : ss.length ≤ c1) (hr2 : Kd.C Kd.bool w A2 dd.length dd) (hc2 : dd.length ≤ c2)
    (hl : layoutOk n l = 0) (hns : (ss.length : Int) = n) (hnd : dd.length = l.length) (hev : eventOk n l op of dir = true) :
    Calls Try.prog 96 #[.agg #[.int .i64 n, .slice A l.length c], .agg #[.bool b, .slice A1 ss.length c1, .slice A2 dd.length c2], .agg #[.int .i64 op, .int .i64 of, .int .i64 dir]] w fun e w' => ∃ v2_ v3_ : Value, e = .returned (.agg #[.int .i64 (doCode l ss dd op of), .bool true, v2_, v3_]) ∧ Kd.R k50 50 w' w.heap.size (fun _ => True) v2_ (doSecs l ss dd op of dir) ∧ Kd.R Kd.bool 4 w' w.heap.size (fun _ => True) v3_ (doDead l ss dd op of) ∧ Below w.heap.size w w' := by
  have hn := lay_n hl
  have hs : ss.length ≤ 1000000 := by omega
  have hd : dd.length ≤ 1000000 := by omega
  have hpos : 0 < ss.length := by omega
  have HN := Aside0.mk (And.intro hl (And.intro hns (And.intro hnd hev)))
  clear hn hl hns hnd hev
  have f1 : impl_Section.f ss = some ss := by unfold impl_Section.f; rw [if_pos hs]
  have f2 : slices_Clone_bool_bool.f dd = some dd := by unfold slices_Clone_bool_bool.f; rw [if_pos hd]
  have HR := Aside0.mk hr
  have HR1 := Aside0.mk hr1
  have HR2 := Aside0.mk hr2
  clear hr hr1 hr2
  go_enter Try.func96, Try.ntmps96
  go_upto_region 1 with (first | ((with_reducible refine gate_dst (N := 3) rfl ?_); refine box_event ?hg (N := 3) ?hd (cs := #[.int .i64 n, .slice A l.length c]) (t := 30) ?hr ?_; (case hd => rfl); (case hg => rfl); (case hr => first | (go_simp; done) | (go_simp; rfl)); intro gl el wl kl bl) | ((with_reducible refine gate_dst (N := 4) rfl ?_); refine box_event ?hg (N := 4) ?hd (cs := #[.bool b, .slice A1 ss.length c1, .slice A2 dd.length c2]) (t := 46) ?hr ?_; (case hd => rfl); (case hg => rfl); (case hr => first | (go_simp; done) | (go_simp; rfl)); intro gs es ws ks bs) | ((with_reducible refine gate_dst (N := 5) rfl ?_); refine box_event ?hg (N := 5) ?hd (cs := #[.int .i64 op, .int .i64 of, .int .i64 dir]) (t := 56) ?hr ?_; (case hd => rfl); (case hg => rfl); (case hr => first | (go_simp; done) | (go_simp; rfl)); intro ge ee we ke be) | ((with_reducible refine gate_dst (N := 6) rfl ?_); refine box_event ?hg (N := 6) ?hd (cs := #[.int .i64 0, .bool false, .slice none 0 0, .slice none 0 0]) (t := 48) ?hr ?_; (case hd => rfl); (case hg => rfl); (case hr => first | (go_simp; done) | (go_simp; rfl)); intro gd ed wd kd_ bd))
  have KL := Aside0.mk (blk_below (blk_below (blk_below kl bs) be) bd)
  have KS := Aside0.mk (blk_below (blk_below ks be) bd)
  have KE := Aside0.mk (blk_below ke bd)
  have KD := Aside0.mk kd_
  have BB := Aside0.mk (below_step (below_step (below_step bl bs) be) bd)
  have GL := Aside0.mk (show w.heap.size ≤ gl by rw [el]; exact Nat.le_refl _)
  have GS := Aside0.mk (show w.heap.size ≤ gs by rw [es]; exact bl.size)
  have GE := Aside0.mk (show w.heap.size ≤ ge by rw [ee]; exact (below_step bl bs).size)
  have GD := Aside0.mk (show w.heap.size ≤ gd by rw [ed]; exact (below_step (below_step bl bs) be).size)
  clear kl ks ke kd_ bl bs be bd el es ee ed
  simp only [Act.put, List.setIfInBounds_toArray, List.set_cons_zero, List.set_cons_succ]
  go_cut [] from 12 to 18 (fun wx => ∃ v1 v2 : Value, DoSt w wx gl gs ge gd [.int .i64 n, .slice A l.length c] [.bool true, v1, v2] [.int .i64 op, .int .i64 of, .int .i64 dir] [.int .i64 0, .bool false, .slice none 0 0, .slice none 0 0] v1 v2 ss dd)
  case first =>
    have e1 : wd.drew.cell? ⟨gs, 1, none⟩ = some (.slice A1 ss.length c1) := (blk_cell (blk_drew KS.out) 1).trans rfl
    have e2 : wd.drew.cell? ⟨gs, 2, none⟩ = some (.slice A2 dd.length c2) := (blk_cell (blk_drew KS.out) 2).trans rfl
    have kx := Aside0.mk (blk_drew KS.out)
    have bx := Aside0.mk (below_drew1 BB.out)
    have by_ := Aside0.mk (below_drew1 (Below.refl wd.heap.size wd))
    go_region_with (first | (go_at_call 94; refine (impl_Section.calls A1 c1 ss ss _ (Kd.C_below HR1.out bx.out) hc1 f1).mono ?_; rintro e w' ⟨v1, rfl, ho1, hb1⟩; obtain ⟨Aa, ca, rfl⟩ := Kd.R_slice ho1; have kx := Aside0.mk (blk_below kx.out hb1); have c0_ : w'.cell? ⟨gs, 0, none⟩ = some (.bool b) := (blk_cell kx.out 0).trans rfl; have c1_ : w'.cell? ⟨gs, 1, none⟩ = some (.slice A1 ss.length c1) := (blk_cell kx.out 1).trans rfl; have c2_ : w'.cell? ⟨gs, 2, none⟩ = some (.slice A2 dd.length c2) := (blk_cell kx.out 2).trans rfl; have z0_ := blk_frozen kx.out 0; have z1_ := blk_frozen kx.out 1; have z2_ := blk_frozen kx.out 2; have HO1 := Aside0.mk (Kd.R_lower ho1 bx.out.size); (try (have HO2 := Aside0.mk (R_up HO2.out hb1))); have bx := Aside0.mk (below_step bx.out hb1); have by_ := Aside0.mk (below_step by_.out hb1); clear hb1 ho1) | (go_at_call 95; refine (slices_Clone_bool_bool.calls A2 c2 dd dd _ (Kd.C_below HR2.out bx.out) hc2 f2).mono ?_; rintro e w' ⟨v2, rfl, ho2, hb2⟩; obtain ⟨Ab, cb, rfl⟩ := Kd.R_slice ho2; have kx := Aside0.mk (blk_below kx.out hb2); have c0_ : w'.cell? ⟨gs, 0, none⟩ = some (.bool b) := (blk_cell kx.out 0).trans rfl; have c1_ : w'.cell? ⟨gs, 1, none⟩ = some (.slice A1 ss.length c1) := (blk_cell kx.out 1).trans rfl; have c2_ : w'.cell? ⟨gs, 2, none⟩ = some (.slice A2 dd.length c2) := (blk_cell kx.out 2).trans rfl; have z0_ := blk_frozen kx.out 0; have z1_ := blk_frozen kx.out 1; have z2_ := blk_frozen kx.out 2; have HO2 := Aside0.mk (Kd.R_lower ho2 bx.out.size); (try (have HO1 := Aside0.mk (R_up HO1.out hb2))); have bx := Aside0.mk (below_step bx.out hb2); have by_ := Aside0.mk (below_step by_.out hb2); clear hb2 ho2))
    all_goals (go_wp2_with fail; go_meet)
    all_goals exact ⟨_, _, DoSt.begin (blk_below KL.out by_.out) kx.out (blk_below KE.out by_.out) (blk_below KD.out by_.out) HO1.out HO2.out bx.out GL.out GS.out GE.out GD.out (blk_ne KL.out KS.out (by decide)) (blk_ne KE.out KS.out (by decide)) (blk_ne KD.out KS.out (by decide))⟩
  case rest =>
    obtain ⟨v1, v2, ST⟩ := hcut
    obtain ⟨gr, cr, e1, _, _, _⟩ := Kd.R_form ST.H1 hpos
    obtain ⟨Ad, cd, e2⟩ := Kd.R_slice ST.H2
    subst e1 e2
    have SA := Aside0.mk (show DoSt w wc gl gs ge gd [.int .i64 n, .slice A l.length c] [.bool true, .slice (some ⟨gr, 0, none⟩) ss.length cr, .slice Ad dd.length cd] [.int .i64 op, .int .i64 of, .int .i64 dir] [.int .i64 0, .bool false, .slice none 0 0, .slice none 0 0] (.slice (some ⟨gr, 0, none⟩) ss.length cr) (.slice Ad dd.length cd) ss dd from ST)
    have ce0 : wc.cell? ⟨ge, 0, none⟩ = some (.int .i64 op) := (blk_cell ST.he 0).trans rfl
    have ce1 : wc.cell? ⟨ge, 1, none⟩ = some (.int .i64 of) := (blk_cell ST.he 1).trans rfl
    have ce2 : wc.cell? ⟨ge, 2, none⟩ = some (.int .i64 dir) := (blk_cell ST.he 2).trans rfl
    have cs1 : wc.cell? ⟨gs, 1, none⟩ = some (.slice (some ⟨gr, 0, none⟩) ss.length cr) := (blk_cell ST.hs 1).trans rfl
    have cs2 : wc.cell? ⟨gs, 2, none⟩ = some (.slice Ad dd.length cd) := (blk_cell ST.hs 2).trans rfl
    have cs0 : wc.cell? ⟨gs, 0, none⟩ = some (.bool true) := (blk_cell ST.hs 0).trans rfl
    have cl0 : wc.cell? ⟨gl, 0, none⟩ = some (.int .i64 n) := (blk_cell ST.hl 0).trans rfl
    have cl1 : wc.cell? ⟨gl, 1, none⟩ = some (.slice A l.length c) := (blk_cell ST.hl 1).trans rfl
    clear ST KL KS KE KD BB
    go_upto_block 0 with fail
    go_cut [] from 9 to 115 (fun wx => Aside0 (DoSt w wx gl gs ge gd [.int .i64 n, .slice A l.length c] [.bool true, .slice (some ⟨gr, 0, none⟩) ss.length cr, .slice Ad dd.length cd] [.int .i64 op, .int .i64 of, .int .i64 dir] [.int .i64 0, .bool false, .slice none 0 0, .slice none 0 0] (.slice (some ⟨gr, 0, none⟩) ss.length cr) (.slice Ad dd.length cd) (midSecs l ss op of dir) (midDead dd op of)) ∧ Aside0 (doCode l ss dd op of = 0))
    case first =>
      obtain ⟨hl, hns, hnd, hev⟩ := HN.out
      have hln := lay_n hl
      have HL2 := Aside0.mk hln
      rcases evOk_cases hev with ⟨hop, ho0, ho1, hdir⟩ | ⟨hop, ho0, ho1⟩ | ⟨rfl, ho0, ho1⟩
      · have lr := lay_rd hl of ho0 ho1
        have ho2 := ho1
        rw [← hnd] at ho1
        obtain ⟨gb, cb, e, _, _, _⟩ := Kd.R_form SA.out.H2 (show 0 < dd.length by omega)
        cases e
        obtain ⟨x0, xf⟩ := bool_at SA.out.H2 of ho0 ho1
        obtain ⟨ad, e, y0, y1⟩ := at_T88 HR.out of ho0 (by omega)
        subst e
        have lr0 : (rd_T88 l of).f0 < (ss.length : Int) := by omega
        have lr1 : (rd_T88 l of).f1 < (ss.length : Int) := by omega
        have LR0 := Aside0.mk lr0
        have LR1 := Aside0.mk lr1
        clear lr lr0 lr1 hl hns hnd hev hln
        have Y0 := Aside0.mk y0
        have Y1 := Aside0.mk y1
        clear y0 y1
        rcases Bool.eq_false_or_eq_true (rdOf false dd of) with hdo | hdo
        · rw [hdo] at x0
          have HDO := Aside0.mk hdo
          clear hdo
          have hc2 : doCode l ss dd op of = 2 := by unfold doCode; rw [if_pos hop, if_pos HDO.out]
          have HC2 := Aside0.mk hc2
          clear hc2
          have kd0 := (blk_cell SA.out.hd 0).trans (show _ = some (Value.int .i64 0) from rfl)
          have kd1 := (blk_cell SA.out.hd 1).trans (show _ = some (Value.bool false) from rfl)
          have kd2 := (blk_cell SA.out.hd 2).trans (show _ = some (Value.slice none 0 0) from rfl)
          have kd3 := (blk_cell SA.out.hd 3).trans (show _ = some (Value.slice none 0 0) from rfl)
          have kz0 := blk_frozen SA.out.hd 0
          have kz1 := blk_frozen SA.out.hd 1
          have kz2 := blk_frozen SA.out.hd 2
          have kz3 := blk_frozen SA.out.hd 3
          rcases hop with rfl | rfl
          all_goals
            go_wp2_with fail
            have SF := SA.out.fill (y0 := .int .i64 2) (y1 := .bool true) (y2 := (.slice (some ⟨gr, 0, none⟩) ss.length cr)) (y3 := (.slice (some ⟨gb, 0, none⟩) dd.length cd))
            refine bodyPost_ret (results_cell_row rfl _ _ gd 48 _ (0, 0) _ rfl SF.hd Try.underlying48 rfl (by kernel_rfl)) rfl ⟨_, _, by rw [HC2.out], ?_, ?_, SF.hB⟩
            · unfold doSecs; rw [HC2.out]; exact SF.H1
            · unfold doDead; rw [HC2.out]; exact SF.H2
        · rw [hdo] at x0
          have HDO := Aside0.mk hdo
          clear hdo
          have y0 := pw_cell_below SA.out.hB Y0.out
          have y1 := pw_cell_below SA.out.hB Y1.out
          rcases hdir with rfl | rfl
          · rcases hop with rfl | rfl
            · go_upto_region 12 with (first | ((with_reducible refine gate_dst (N := 9) rfl ?_); refine box_event ?hg (N := 9) ?hd (cs := #[.int .i64 0, .int .i64 0]) (t := 88) ?hr ?_; (case hd => rfl); (case hg => rfl); (case hr => first | (go_simp; done) | (go_simp; rfl)); intro gc ec wb kc bc; have KC := Aside0.mk kc; have EC := Aside0.mk ec; have BC := Aside0.mk bc; have zc0 := blk_frozen kc 0; have zc1 := blk_frozen kc 1; have kc0 := (blk_cell kc 0).trans (show _ = some (Value.int .i64 0) from rfl); have kc1 := (blk_cell kc 1).trans (show _ = some (Value.int .i64 0) from rfl); have e0 := pw_cell_below bc ce0; have e1 := pw_cell_below bc ce1; have e2 := pw_cell_below bc ce2; have ss1 := pw_cell_below bc cs1; have ss2 := pw_cell_below bc cs2; clear kc ec bc))
              have KX := Aside0.mk (blk_put (blk_put KC.out 0 (.int .i64 (rd_T88 l of).f0) rfl) 1 (.int .i64 (rd_T88 l of).f1) rfl)
              have BX := Aside0.mk (below_set (j := 1) (v := (.int .i64 (rd_T88 l of).f1)) (below_set (j := 0) (v := (.int .i64 (rd_T88 l of).f0)) BC.out (Nat.le_of_eq EC.out.symm)) (Nat.le_of_eq EC.out.symm))
              have S1 := Aside0.mk (SA.out.up BX.out)
              clear SA ce0 ce1 ce2 cs0 cs1 cs2 cl0 cl1 x0 xf KC BC BX zc0 zc1 kc0 kc1 e0 e1 e2 ss1 ss2 y0 y1 EC
              generalize ((wb.setCell ⟨gc, 0, none⟩ (.int .i64 (rd_T88 l of).f0)).setCell ⟨gc, 1, none⟩ (.int .i64 (rd_T88 l of).f1)) = w1 at S1 KX ⊢
              have kge0 : w1.cell? ⟨ge, 0, none⟩ = some (.int .i64 1) := (blk_cell S1.out.he 0).trans rfl
              have kge1 : w1.cell? ⟨ge, 1, none⟩ = some (.int .i64 of) := (blk_cell S1.out.he 1).trans rfl
              have kge2 : w1.cell? ⟨ge, 2, none⟩ = some (.int .i64 1) := (blk_cell S1.out.he 2).trans rfl
              have kgs0 : w1.cell? ⟨gs, 0, none⟩ = some (.bool true) := (blk_cell S1.out.hs 0).trans rfl
              have kgs1 : w1.cell? ⟨gs, 1, none⟩ = some (.slice (some ⟨gr, 0, none⟩) ss.length cr) := (blk_cell S1.out.hs 1).trans rfl
              have kgs2 : w1.cell? ⟨gs, 2, none⟩ = some (.slice (some ⟨gb, 0, none⟩) dd.length cd) := (blk_cell S1.out.hs 2).trans rfl
              have kgl0 : w1.cell? ⟨gl, 0, none⟩ = some (.int .i64 n) := (blk_cell S1.out.hl 0).trans rfl
              have kgl1 : w1.cell? ⟨gl, 1, none⟩ = some (.slice (some ad) l.length c) := (blk_cell S1.out.hl 1).trans rfl
              have kc0 : w1.cell? ⟨gc, 0, none⟩ = some (.int .i64 (rd_T88 l of).f0) := (blk_cell KX.out 0).trans rfl
              have kc1 : w1.cell? ⟨gc, 1, none⟩ = some (.int .i64 (rd_T88 l of).f1) := (blk_cell KX.out 1).trans rfl
              go_upto_region 14 with (go_at_call 130; refine (cnt_any _ _ true gs gr ss.length cr _ _ _ _ _ LR0.out S1.out.hs S1.out.H1).mono ?_; rintro e w2 ⟨rfl, hR, hg⟩; have S2 := Aside0.mk (S1.out.sec hR hg); have KY := Aside0.mk (blk_grown KX.out hg (Kd.R_ne S1.out.H1 KX.out (by decide))); clear hR hg)
              clear kge0 kge1 kge2 kgs0 kgs1 kgs2 kgl0 kgl1
              clear kc0 kc1 S1 KX
              have kge0 : w2.cell? ⟨ge, 0, none⟩ = some (.int .i64 1) := (blk_cell S2.out.he 0).trans rfl
              have kge1 : w2.cell? ⟨ge, 1, none⟩ = some (.int .i64 of) := (blk_cell S2.out.he 1).trans rfl
              have kge2 : w2.cell? ⟨ge, 2, none⟩ = some (.int .i64 1) := (blk_cell S2.out.he 2).trans rfl
              have kgs0 : w2.cell? ⟨gs, 0, none⟩ = some (.bool true) := (blk_cell S2.out.hs 0).trans rfl
              have kgs1 : w2.cell? ⟨gs, 1, none⟩ = some (.slice (some ⟨gr, 0, none⟩) ss.length cr) := (blk_cell S2.out.hs 1).trans rfl
              have kgs2 : w2.cell? ⟨gs, 2, none⟩ = some (.slice (some ⟨gb, 0, none⟩) dd.length cd) := (blk_cell S2.out.hs 2).trans rfl
              have kgl0 : w2.cell? ⟨gl, 0, none⟩ = some (.int .i64 n) := (blk_cell S2.out.hl 0).trans rfl
              have kgl1 : w2.cell? ⟨gl, 1, none⟩ = some (.slice (some ad) l.length c) := (blk_cell S2.out.hl 1).trans rfl
              have kc1 : w2.cell? ⟨gc, 1, none⟩ = some (.int .i64 (rd_T88 l of).f1) := (blk_cell KY.out 1).trans rfl
              go_wp2_with (go_at_call 130; refine (cnt_any _ _ true gs gr ss.length cr _ _ _ _ _ LR1.out S2.out.hs S2.out.H1).mono ?_; rintro e w3 ⟨rfl, hR, hg⟩; have S3 := Aside0.mk (S2.out.sec hR hg); clear hR hg)
              go_meet
              case rel => exact ⟨⟨S3.out⟩, ⟨by unfold doCode; rw [if_pos (by decide), HDO.out]; rfl⟩⟩
            · go_upto_region 12 with (first | ((with_reducible refine gate_dst (N := 9) rfl ?_); refine box_event ?hg (N := 9) ?hd (cs := #[.int .i64 0, .int .i64 0]) (t := 88) ?hr ?_; (case hd => rfl); (case hg => rfl); (case hr => first | (go_simp; done) | (go_simp; rfl)); intro gc ec wb kc bc; have KC := Aside0.mk kc; have EC := Aside0.mk ec; have BC := Aside0.mk bc; have zc0 := blk_frozen kc 0; have zc1 := blk_frozen kc 1; have kc0 := (blk_cell kc 0).trans (show _ = some (Value.int .i64 0) from rfl); have kc1 := (blk_cell kc 1).trans (show _ = some (Value.int .i64 0) from rfl); have e0 := pw_cell_below bc ce0; have e1 := pw_cell_below bc ce1; have e2 := pw_cell_below bc ce2; have ss1 := pw_cell_below bc cs1; have ss2 := pw_cell_below bc cs2; clear kc ec bc))
              have KX := Aside0.mk (blk_put (blk_put KC.out 0 (.int .i64 (rd_T88 l of).f0) rfl) 1 (.int .i64 (rd_T88 l of).f1) rfl)
              have BX := Aside0.mk (below_set (j := 1) (v := (.int .i64 (rd_T88 l of).f1)) (below_set (j := 0) (v := (.int .i64 (rd_T88 l of).f0)) BC.out (Nat.le_of_eq EC.out.symm)) (Nat.le_of_eq EC.out.symm))
              have S1 := Aside0.mk (SA.out.up BX.out)
              clear SA ce0 ce1 ce2 cs0 cs1 cs2 cl0 cl1 x0 xf KC BC BX zc0 zc1 kc0 kc1 e0 e1 e2 ss1 ss2 y0 y1 EC
              generalize ((wb.setCell ⟨gc, 0, none⟩ (.int .i64 (rd_T88 l of).f0)).setCell ⟨gc, 1, none⟩ (.int .i64 (rd_T88 l of).f1)) = w1 at S1 KX ⊢
              have kge0 : w1.cell? ⟨ge, 0, none⟩ = some (.int .i64 2) := (blk_cell S1.out.he 0).trans rfl
              have kge1 : w1.cell? ⟨ge, 1, none⟩ = some (.int .i64 of) := (blk_cell S1.out.he 1).trans rfl
              have kge2 : w1.cell? ⟨ge, 2, none⟩ = some (.int .i64 1) := (blk_cell S1.out.he 2).trans rfl
              have kgs0 : w1.cell? ⟨gs, 0, none⟩ = some (.bool true) := (blk_cell S1.out.hs 0).trans rfl
              have kgs1 : w1.cell? ⟨gs, 1, none⟩ = some (.slice (some ⟨gr, 0, none⟩) ss.length cr) := (blk_cell S1.out.hs 1).trans rfl
              have kgs2 : w1.cell? ⟨gs, 2, none⟩ = some (.slice (some ⟨gb, 0, none⟩) dd.length cd) := (blk_cell S1.out.hs 2).trans rfl
              have kgl0 : w1.cell? ⟨gl, 0, none⟩ = some (.int .i64 n) := (blk_cell S1.out.hl 0).trans rfl
              have kgl1 : w1.cell? ⟨gl, 1, none⟩ = some (.slice (some ad) l.length c) := (blk_cell S1.out.hl 1).trans rfl
              have kc0 : w1.cell? ⟨gc, 0, none⟩ = some (.int .i64 (rd_T88 l of).f0) := (blk_cell KX.out 0).trans rfl
              have kc1 : w1.cell? ⟨gc, 1, none⟩ = some (.int .i64 (rd_T88 l of).f1) := (blk_cell KX.out 1).trans rfl
              go_wp2_with (go_at_call 130; refine (cnt_any _ _ true gs gr ss.length cr _ _ _ _ _ LR1.out S1.out.hs S1.out.H1).mono ?_; rintro e w3 ⟨rfl, hR, hg⟩; have S3 := Aside0.mk (S1.out.sec hR hg); clear hR hg)
              go_meet
              case rel => exact ⟨⟨S3.out⟩, ⟨by unfold doCode; rw [if_pos (by decide), HDO.out]; rfl⟩⟩
          · rcases hop with rfl | rfl
            · go_upto_region 12 with (first | ((with_reducible refine gate_dst (N := 9) rfl ?_); refine box_event ?hg (N := 9) ?hd (cs := #[.int .i64 0, .int .i64 0]) (t := 88) ?hr ?_; (case hd => rfl); (case hg => rfl); (case hr => first | (go_simp; done) | (go_simp; rfl)); intro gc ec wb kc bc; have KC := Aside0.mk kc; have EC := Aside0.mk ec; have BC := Aside0.mk bc; have zc0 := blk_frozen kc 0; have zc1 := blk_frozen kc 1; have kc0 := (blk_cell kc 0).trans (show _ = some (Value.int .i64 0) from rfl); have kc1 := (blk_cell kc 1).trans (show _ = some (Value.int .i64 0) from rfl); have e0 := pw_cell_below bc ce0; have e1 := pw_cell_below bc ce1; have e2 := pw_cell_below bc ce2; have ss1 := pw_cell_below bc cs1; have ss2 := pw_cell_below bc cs2; clear kc ec bc))
              have KX := Aside0.mk (blk_put (blk_put (blk_put (blk_put KC.out 0 (.int .i64 (rd_T88 l of).f0) rfl) 1 (.int .i64 (rd_T88 l of).f1) rfl) 0 (.int .i64 (rd_T88 l of).f1) rfl) 1 (.int .i64 (rd_T88 l of).f0) rfl)
              have BX := Aside0.mk (below_set (j := 1) (v := (.int .i64 (rd_T88 l of).f0)) (below_set (j := 0) (v := (.int .i64 (rd_T88 l of).f1)) (below_set (j := 1) (v := (.int .i64 (rd_T88 l of).f1)) (below_set (j := 0) (v := (.int .i64 (rd_T88 l of).f0)) BC.out (Nat.le_of_eq EC.out.symm)) (Nat.le_of_eq EC.out.symm)) (Nat.le_of_eq EC.out.symm)) (Nat.le_of_eq EC.out.symm))
              have S1 := Aside0.mk (SA.out.up BX.out)
              clear SA ce0 ce1 ce2 cs0 cs1 cs2 cl0 cl1 x0 xf KC BC BX zc0 zc1 kc0 kc1 e0 e1 e2 ss1 ss2 y0 y1 EC
              generalize ((((wb.setCell ⟨gc, 0, none⟩ (.int .i64 (rd_T88 l of).f0)).setCell ⟨gc, 1, none⟩ (.int .i64 (rd_T88 l of).f1)).setCell ⟨gc, 0, none⟩ (.int .i64 (rd_T88 l of).f1)).setCell ⟨gc, 1, none⟩ (.int .i64 (rd_T88 l of).f0)) = w1 at S1 KX ⊢
              have kge0 : w1.cell? ⟨ge, 0, none⟩ = some (.int .i64 1) := (blk_cell S1.out.he 0).trans rfl
              have kge1 : w1.cell? ⟨ge, 1, none⟩ = some (.int .i64 of) := (blk_cell S1.out.he 1).trans rfl
              have kge2 : w1.cell? ⟨ge, 2, none⟩ = some (.int .i64 (-1)) := (blk_cell S1.out.he 2).trans rfl
              have kgs0 : w1.cell? ⟨gs, 0, none⟩ = some (.bool true) := (blk_cell S1.out.hs 0).trans rfl
              have kgs1 : w1.cell? ⟨gs, 1, none⟩ = some (.slice (some ⟨gr, 0, none⟩) ss.length cr) := (blk_cell S1.out.hs 1).trans rfl
              have kgs2 : w1.cell? ⟨gs, 2, none⟩ = some (.slice (some ⟨gb, 0, none⟩) dd.length cd) := (blk_cell S1.out.hs 2).trans rfl
              have kgl0 : w1.cell? ⟨gl, 0, none⟩ = some (.int .i64 n) := (blk_cell S1.out.hl 0).trans rfl
              have kgl1 : w1.cell? ⟨gl, 1, none⟩ = some (.slice (some ad) l.length c) := (blk_cell S1.out.hl 1).trans rfl
              have kc0 : w1.cell? ⟨gc, 0, none⟩ = some (.int .i64 (rd_T88 l of).f1) := (blk_cell KX.out 0).trans rfl
              have kc1 : w1.cell? ⟨gc, 1, none⟩ = some (.int .i64 (rd_T88 l of).f0) := (blk_cell KX.out 1).trans rfl
              go_upto_region 14 with (go_at_call 130; refine (cnt_any _ _ true gs gr ss.length cr _ _ _ _ _ LR1.out S1.out.hs S1.out.H1).mono ?_; rintro e w2 ⟨rfl, hR, hg⟩; have S2 := Aside0.mk (S1.out.sec hR hg); have KY := Aside0.mk (blk_grown KX.out hg (Kd.R_ne S1.out.H1 KX.out (by decide))); clear hR hg)
              clear kge0 kge1 kge2 kgs0 kgs1 kgs2 kgl0 kgl1
              clear kc0 kc1 S1 KX
              have kge0 : w2.cell? ⟨ge, 0, none⟩ = some (.int .i64 1) := (blk_cell S2.out.he 0).trans rfl
              have kge1 : w2.cell? ⟨ge, 1, none⟩ = some (.int .i64 of) := (blk_cell S2.out.he 1).trans rfl
              have kge2 : w2.cell? ⟨ge, 2, none⟩ = some (.int .i64 (-1)) := (blk_cell S2.out.he 2).trans rfl
              have kgs0 : w2.cell? ⟨gs, 0, none⟩ = some (.bool true) := (blk_cell S2.out.hs 0).trans rfl
              have kgs1 : w2.cell? ⟨gs, 1, none⟩ = some (.slice (some ⟨gr, 0, none⟩) ss.length cr) := (blk_cell S2.out.hs 1).trans rfl
              have kgs2 : w2.cell? ⟨gs, 2, none⟩ = some (.slice (some ⟨gb, 0, none⟩) dd.length cd) := (blk_cell S2.out.hs 2).trans rfl
              have kgl0 : w2.cell? ⟨gl, 0, none⟩ = some (.int .i64 n) := (blk_cell S2.out.hl 0).trans rfl
              have kgl1 : w2.cell? ⟨gl, 1, none⟩ = some (.slice (some ad) l.length c) := (blk_cell S2.out.hl 1).trans rfl
              have kc1 : w2.cell? ⟨gc, 1, none⟩ = some (.int .i64 (rd_T88 l of).f0) := (blk_cell KY.out 1).trans rfl
              go_wp2_with (go_at_call 130; refine (cnt_any _ _ true gs gr ss.length cr _ _ _ _ _ LR0.out S2.out.hs S2.out.H1).mono ?_; rintro e w3 ⟨rfl, hR, hg⟩; have S3 := Aside0.mk (S2.out.sec hR hg); clear hR hg)
              go_meet
              case rel => exact ⟨⟨S3.out⟩, ⟨by unfold doCode; rw [if_pos (by decide), HDO.out]; rfl⟩⟩
            · go_upto_region 12 with (first | ((with_reducible refine gate_dst (N := 9) rfl ?_); refine box_event ?hg (N := 9) ?hd (cs := #[.int .i64 0, .int .i64 0]) (t := 88) ?hr ?_; (case hd => rfl); (case hg => rfl); (case hr => first | (go_simp; done) | (go_simp; rfl)); intro gc ec wb kc bc; have KC := Aside0.mk kc; have EC := Aside0.mk ec; have BC := Aside0.mk bc; have zc0 := blk_frozen kc 0; have zc1 := blk_frozen kc 1; have kc0 := (blk_cell kc 0).trans (show _ = some (Value.int .i64 0) from rfl); have kc1 := (blk_cell kc 1).trans (show _ = some (Value.int .i64 0) from rfl); have e0 := pw_cell_below bc ce0; have e1 := pw_cell_below bc ce1; have e2 := pw_cell_below bc ce2; have ss1 := pw_cell_below bc cs1; have ss2 := pw_cell_below bc cs2; clear kc ec bc))
              have KX := Aside0.mk (blk_put (blk_put (blk_put (blk_put KC.out 0 (.int .i64 (rd_T88 l of).f0) rfl) 1 (.int .i64 (rd_T88 l of).f1) rfl) 0 (.int .i64 (rd_T88 l of).f1) rfl) 1 (.int .i64 (rd_T88 l of).f0) rfl)
              have BX := Aside0.mk (below_set (j := 1) (v := (.int .i64 (rd_T88 l of).f0)) (below_set (j := 0) (v := (.int .i64 (rd_T88 l of).f1)) (below_set (j := 1) (v := (.int .i64 (rd_T88 l of).f1)) (below_set (j := 0) (v := (.int .i64 (rd_T88 l of).f0)) BC.out (Nat.le_of_eq EC.out.symm)) (Nat.le_of_eq EC.out.symm)) (Nat.le_of_eq EC.out.symm)) (Nat.le_of_eq EC.out.symm))
              have S1 := Aside0.mk (SA.out.up BX.out)
              clear SA ce0 ce1 ce2 cs0 cs1 cs2 cl0 cl1 x0 xf KC BC BX zc0 zc1 kc0 kc1 e0 e1 e2 ss1 ss2 y0 y1 EC
              generalize ((((wb.setCell ⟨gc, 0, none⟩ (.int .i64 (rd_T88 l of).f0)).setCell ⟨gc, 1, none⟩ (.int .i64 (rd_T88 l of).f1)).setCell ⟨gc, 0, none⟩ (.int .i64 (rd_T88 l of).f1)).setCell ⟨gc, 1, none⟩ (.int .i64 (rd_T88 l of).f0)) = w1 at S1 KX ⊢
              have kge0 : w1.cell? ⟨ge, 0, none⟩ = some (.int .i64 2) := (blk_cell S1.out.he 0).trans rfl
              have kge1 : w1.cell? ⟨ge, 1, none⟩ = some (.int .i64 of) := (blk_cell S1.out.he 1).trans rfl
              have kge2 : w1.cell? ⟨ge, 2, none⟩ = some (.int .i64 (-1)) := (blk_cell S1.out.he 2).trans rfl
              have kgs0 : w1.cell? ⟨gs, 0, none⟩ = some (.bool true) := (blk_cell S1.out.hs 0).trans rfl
              have kgs1 : w1.cell? ⟨gs, 1, none⟩ = some (.slice (some ⟨gr, 0, none⟩) ss.length cr) := (blk_cell S1.out.hs 1).trans rfl
              have kgs2 : w1.cell? ⟨gs, 2, none⟩ = some (.slice (some ⟨gb, 0, none⟩) dd.length cd) := (blk_cell S1.out.hs 2).trans rfl
              have kgl0 : w1.cell? ⟨gl, 0, none⟩ = some (.int .i64 n) := (blk_cell S1.out.hl 0).trans rfl
              have kgl1 : w1.cell? ⟨gl, 1, none⟩ = some (.slice (some ad) l.length c) := (blk_cell S1.out.hl 1).trans rfl
              have kc0 : w1.cell? ⟨gc, 0, none⟩ = some (.int .i64 (rd_T88 l of).f1) := (blk_cell KX.out 0).trans rfl
              have kc1 : w1.cell? ⟨gc, 1, none⟩ = some (.int .i64 (rd_T88 l of).f0) := (blk_cell KX.out 1).trans rfl
              go_wp2_with (go_at_call 130; refine (cnt_any _ _ true gs gr ss.length cr _ _ _ _ _ LR0.out S1.out.hs S1.out.H1).mono ?_; rintro e w3 ⟨rfl, hR, hg⟩; have S3 := Aside0.mk (S1.out.sec hR hg); clear hR hg)
              go_meet
              case rel => exact ⟨⟨S3.out⟩, ⟨by unfold doCode; rw [if_pos (by decide), HDO.out]; rfl⟩⟩
      · have lr := lay_rd hl of ho0 ho1
        have ho2 := ho1
        rw [← hnd] at ho1
        obtain ⟨gb, cb, e, _, _, _⟩ := Kd.R_form SA.out.H2 (show 0 < dd.length by omega)
        cases e
        obtain ⟨x0, xf⟩ := bool_at SA.out.H2 of ho0 ho1
        obtain ⟨ad, e, y0, y1⟩ := at_T88 HR.out of ho0 (by omega)
        subst e
        have lr0 : (rd_T88 l of).f0 < (ss.length : Int) := by omega
        have lr1 : (rd_T88 l of).f1 < (ss.length : Int) := by omega
        have LR0 := Aside0.mk lr0
        have LR1 := Aside0.mk lr1
        clear lr lr0 lr1 hl hns hnd hev hln
        have Y0 := Aside0.mk y0
        have Y1 := Aside0.mk y1
        clear y0 y1
        rcases hop with rfl | rfl
        · go_upto_region 17 with fail
          have S1 := Aside0.mk (SA.out.dead of true)
          clear SA ce0 ce1 ce2 cs0 cs1 cs2 cl0 cl1 x0 xf
          generalize wc.setCell ⟨gb, of.toNat, none⟩ (.bool true) = w1 at S1 ⊢
          have kge0 : w1.cell? ⟨ge, 0, none⟩ = some (.int .i64 3) := (blk_cell S1.out.he 0).trans rfl
          have kge1 : w1.cell? ⟨ge, 1, none⟩ = some (.int .i64 of) := (blk_cell S1.out.he 1).trans rfl
          have kge2 : w1.cell? ⟨ge, 2, none⟩ = some (.int .i64 dir) := (blk_cell S1.out.he 2).trans rfl
          have kgs0 : w1.cell? ⟨gs, 0, none⟩ = some (.bool true) := (blk_cell S1.out.hs 0).trans rfl
          have kgs1 : w1.cell? ⟨gs, 1, none⟩ = some (.slice (some ⟨gr, 0, none⟩) ss.length cr) := (blk_cell S1.out.hs 1).trans rfl
          have kgs2 : w1.cell? ⟨gs, 2, none⟩ = some (.slice (some ⟨gb, 0, none⟩) dd.length cd) := (blk_cell S1.out.hs 2).trans rfl
          have kgl0 : w1.cell? ⟨gl, 0, none⟩ = some (.int .i64 n) := (blk_cell S1.out.hl 0).trans rfl
          have kgl1 : w1.cell? ⟨gl, 1, none⟩ = some (.slice (some ad) l.length c) := (blk_cell S1.out.hl 1).trans rfl
          have y0 := pw_cell_below S1.out.hB Y0.out
          have y1 := pw_cell_below S1.out.hB Y1.out
          go_upto_region 18 with (go_at_call 131; refine (lose_any _ true gs gr ss.length cr _ _ _ _ _ LR0.out S1.out.hs S1.out.H1).mono ?_; rintro e w2 ⟨rfl, hR, hg⟩; have S2 := Aside0.mk (S1.out.sec hR hg); clear hR hg)
          clear kge0 kge1 kge2 kgs0 kgs1 kgs2 kgl0 kgl1
          clear y0 y1 S1
          have kge0 : w2.cell? ⟨ge, 0, none⟩ = some (.int .i64 3) := (blk_cell S2.out.he 0).trans rfl
          have kge1 : w2.cell? ⟨ge, 1, none⟩ = some (.int .i64 of) := (blk_cell S2.out.he 1).trans rfl
          have kge2 : w2.cell? ⟨ge, 2, none⟩ = some (.int .i64 dir) := (blk_cell S2.out.he 2).trans rfl
          have kgs0 : w2.cell? ⟨gs, 0, none⟩ = some (.bool true) := (blk_cell S2.out.hs 0).trans rfl
          have kgs1 : w2.cell? ⟨gs, 1, none⟩ = some (.slice (some ⟨gr, 0, none⟩) ss.length cr) := (blk_cell S2.out.hs 1).trans rfl
          have kgs2 : w2.cell? ⟨gs, 2, none⟩ = some (.slice (some ⟨gb, 0, none⟩) dd.length cd) := (blk_cell S2.out.hs 2).trans rfl
          have kgl0 : w2.cell? ⟨gl, 0, none⟩ = some (.int .i64 n) := (blk_cell S2.out.hl 0).trans rfl
          have kgl1 : w2.cell? ⟨gl, 1, none⟩ = some (.slice (some ad) l.length c) := (blk_cell S2.out.hl 1).trans rfl
          have y0 := pw_cell_below S2.out.hB Y0.out
          have y1 := pw_cell_below S2.out.hB Y1.out
          go_wp2_with (go_at_call 131; refine (lose_any _ true gs gr ss.length cr _ _ _ _ _ LR1.out S2.out.hs S2.out.H1).mono ?_; rintro e w3 ⟨rfl, hR, hg⟩; have S3 := Aside0.mk (S2.out.sec hR hg); clear hR hg)
          go_meet
          case rel => exact ⟨⟨S3.out⟩, ⟨rfl⟩⟩
        · go_wp2_with fail
          go_meet
          case rel => exact ⟨⟨SA.out.dead of false⟩, ⟨rfl⟩⟩
      · rw [← hns] at ho1
        obtain ⟨z0, z1, z2, z3, z4, zf0, zf1, zf2, zf3, zf4⟩ := sec_at SA.out.H1 of ho0 ho1
        have hll : l.length ≤ 1048576 := by omega
        have HLL := Aside0.mk hll
        have HND := Aside0.mk hnd
        have HO0 := Aside0.mk ho0
        have HO1 := Aside0.mk ho1
        clear hl hns hnd hev hln hll z0 z1 z2 z3 z4 zf0 zf1 zf2 zf3 zf4
        rcases Bool.eq_false_or_eq_true (deadAt l dd of) with hdo | hdo
        · have HDO := Aside0.mk hdo
          clear hdo
          have HC2 := Aside0.mk (show doCode l ss dd 5 of = 3 by unfold doCode; rw [if_neg (by decide), if_pos rfl, if_pos HDO.out])
          go_upto_region 23 with (go_at_call 98; refine (dead_at of HDO.out (Kd.C_below HR.out SA.out.hB) hc (Kd.R_reads' SA.out.H1).2.2 (Kd.R_reads' SA.out.H1).2.1 (Kd.R_reads' SA.out.H2).2.2 (Kd.R_reads' SA.out.H2).2.1 HLL.out HND.out).mono ?_; rintro e w1 ⟨rfl, hb⟩; have S1 := Aside0.mk (SA.out.up hb); clear hb)
          clear ce0 ce1 ce2 cs0 cs1 cs2 cl0 cl1 SA
          have kge0 : w1.cell? ⟨ge, 0, none⟩ = some (.int .i64 5) := (blk_cell S1.out.he 0).trans rfl
          have kge1 : w1.cell? ⟨ge, 1, none⟩ = some (.int .i64 of) := (blk_cell S1.out.he 1).trans rfl
          have kge2 : w1.cell? ⟨ge, 2, none⟩ = some (.int .i64 dir) := (blk_cell S1.out.he 2).trans rfl
          have kgs0 : w1.cell? ⟨gs, 0, none⟩ = some (.bool true) := (blk_cell S1.out.hs 0).trans rfl
          have kgs1 : w1.cell? ⟨gs, 1, none⟩ = some (.slice (some ⟨gr, 0, none⟩) ss.length cr) := (blk_cell S1.out.hs 1).trans rfl
          have kgs2 : w1.cell? ⟨gs, 2, none⟩ = some (.slice Ad dd.length cd) := (blk_cell S1.out.hs 2).trans rfl
          have kgl0 : w1.cell? ⟨gl, 0, none⟩ = some (.int .i64 n) := (blk_cell S1.out.hl 0).trans rfl
          have kgl1 : w1.cell? ⟨gl, 1, none⟩ = some (.slice A l.length c) := (blk_cell S1.out.hl 1).trans rfl
          have kd0 : w1.cell? ⟨gd, 0, none⟩ = some (.int .i64 0) := (blk_cell S1.out.hd 0).trans rfl
          have kz0 := blk_frozen S1.out.hd 0
          have kd1 : w1.cell? ⟨gd, 1, none⟩ = some (.bool false) := (blk_cell S1.out.hd 1).trans rfl
          have kz1 := blk_frozen S1.out.hd 1
          have kd2 : w1.cell? ⟨gd, 2, none⟩ = some (.slice none 0 0) := (blk_cell S1.out.hd 2).trans rfl
          have kz2 := blk_frozen S1.out.hd 2
          have kd3 : w1.cell? ⟨gd, 3, none⟩ = some (.slice none 0 0) := (blk_cell S1.out.hd 3).trans rfl
          have kz3 := blk_frozen S1.out.hd 3
          go_wp2_with fail
          have SF := S1.out.fill (y0 := .int .i64 3) (y1 := .bool true) (y2 := (.slice (some ⟨gr, 0, none⟩) ss.length cr)) (y3 := (.slice Ad dd.length cd))
          refine bodyPost_ret (results_cell_row rfl _ _ gd 48 _ (0, 0) _ rfl SF.hd Try.underlying48 rfl (by kernel_rfl)) rfl ⟨_, _, by rw [HC2.out], ?_, ?_, SF.hB⟩
          · unfold doSecs; rw [HC2.out]; exact SF.H1
          · unfold doDead; rw [HC2.out]; exact SF.H2
        · have HDO := Aside0.mk hdo
          clear hdo
          go_upto_region 24 with (go_at_call 98; refine (dead_at of HDO.out (Kd.C_below HR.out SA.out.hB) hc (Kd.R_reads' SA.out.H1).2.2 (Kd.R_reads' SA.out.H1).2.1 (Kd.R_reads' SA.out.H2).2.2 (Kd.R_reads' SA.out.H2).2.1 HLL.out HND.out).mono ?_; rintro e w1 ⟨rfl, hb⟩; have S1 := Aside0.mk (SA.out.up hb); clear hb)
          clear ce0 ce1 ce2 cs0 cs1 cs2 cl0 cl1 SA
          have kge0 : w1.cell? ⟨ge, 0, none⟩ = some (.int .i64 5) := (blk_cell S1.out.he 0).trans rfl
          have kge1 : w1.cell? ⟨ge, 1, none⟩ = some (.int .i64 of) := (blk_cell S1.out.he 1).trans rfl
          have kge2 : w1.cell? ⟨ge, 2, none⟩ = some (.int .i64 dir) := (blk_cell S1.out.he 2).trans rfl
          have kgs0 : w1.cell? ⟨gs, 0, none⟩ = some (.bool true) := (blk_cell S1.out.hs 0).trans rfl
          have kgs1 : w1.cell? ⟨gs, 1, none⟩ = some (.slice (some ⟨gr, 0, none⟩) ss.length cr) := (blk_cell S1.out.hs 1).trans rfl
          have kgs2 : w1.cell? ⟨gs, 2, none⟩ = some (.slice Ad dd.length cd) := (blk_cell S1.out.hs 2).trans rfl
          have kgl0 : w1.cell? ⟨gl, 0, none⟩ = some (.int .i64 n) := (blk_cell S1.out.hl 0).trans rfl
          have kgl1 : w1.cell? ⟨gl, 1, none⟩ = some (.slice A l.length c) := (blk_cell S1.out.hl 1).trans rfl
          have ho0 := HO0.out
          have ho1 := HO1.out
          obtain ⟨z0, z1, z2, z3, z4, zf0, zf1, zf2, zf3, zf4⟩ := sec_at S1.out.H1 of ho0 ho1
          by_cases hla : (rd_T50 ss of).f4 = 1
          · have hla1 : ((rd_T50 ss of).f4 == 1) = true := beq_iff_eq.mpr hla
            have HC2 := Aside0.mk (show doCode l ss dd 5 of = 4 by unfold doCode; rw [if_neg (by decide), if_pos rfl, HDO.out, if_neg (by decide), if_pos hla])
            clear hla
            have kd0 : w1.cell? ⟨gd, 0, none⟩ = some (.int .i64 0) := (blk_cell S1.out.hd 0).trans rfl
            have kz0 := blk_frozen S1.out.hd 0
            have kd1 : w1.cell? ⟨gd, 1, none⟩ = some (.bool false) := (blk_cell S1.out.hd 1).trans rfl
            have kz1 := blk_frozen S1.out.hd 1
            have kd2 : w1.cell? ⟨gd, 2, none⟩ = some (.slice none 0 0) := (blk_cell S1.out.hd 2).trans rfl
            have kz2 := blk_frozen S1.out.hd 2
            have kd3 : w1.cell? ⟨gd, 3, none⟩ = some (.slice none 0 0) := (blk_cell S1.out.hd 3).trans rfl
            have kz3 := blk_frozen S1.out.hd 3
            go_wp2_with fail
            have SF := S1.out.fill (y0 := .int .i64 4) (y1 := .bool true) (y2 := (.slice (some ⟨gr, 0, none⟩) ss.length cr)) (y3 := (.slice Ad dd.length cd))
            refine bodyPost_ret (results_cell_row rfl _ _ gd 48 _ (0, 0) _ rfl SF.hd Try.underlying48 rfl (by kernel_rfl)) rfl ⟨_, _, by rw [HC2.out], ?_, ?_, SF.hB⟩
            · unfold doSecs; rw [HC2.out]; exact SF.H1
            · unfold doDead; rw [HC2.out]; exact SF.H2
          · have hla1 : ((rd_T50 ss of).f4 == 1) = false := beq_eq_false_iff_ne.mpr hla
            have HC2 := Aside0.mk (show doCode l ss dd 5 of = 0 by unfold doCode; rw [if_neg (by decide), if_pos rfl, HDO.out, if_neg (by decide), if_neg hla])
            clear hla
            go_wp2_with fail
            go_meet
            case rel =>
              obtain ⟨hR, hg⟩ := ((((SecSt.start S1.out.H1 HO0.out HO1.out).put0 HO0.out HO1.out (u := 0) rfl).put1 HO0.out HO1.out (u := 0) rfl).put2 HO0.out HO1.out (u := false) rfl |>.put3 HO0.out HO1.out (u := true) rfl).put4 HO0.out HO1.out (u := 0) rfl
              exact ⟨⟨S1.out.sec hR hg⟩, HC2⟩
    case rest =>
      obtain ⟨SM, HC0⟩ := hcut
      have HLM := Aside0.mk (midSecs_length l ss op of dir)
      have HLD := Aside0.mk (midDead_length dd op of)
      have HDS := Aside0.mk (show retold l (midDead dd op of) (midSecs l ss op of dir) = doSecs l ss dd op of dir by unfold doSecs; rw [if_pos HC0.out])
      have HDD := Aside0.mk (show midDead dd op of = doDead l ss dd op of by unfold doDead; rw [if_pos HC0.out])
      clear SA ce0 ce1 ce2 cs0 cs1 cs2 cl0 cl1
      generalize midSecs l ss op of dir = ms at SM HLM HDS
      generalize midDead dd op of = md at SM HLD HDS HDD
      have kge0 : wc.cell? ⟨ge, 0, none⟩ = some (.int .i64 op) := (blk_cell SM.out.he 0).trans rfl
      have kge1 : wc.cell? ⟨ge, 1, none⟩ = some (.int .i64 of) := (blk_cell SM.out.he 1).trans rfl
      have kge2 : wc.cell? ⟨ge, 2, none⟩ = some (.int .i64 dir) := (blk_cell SM.out.he 2).trans rfl
      have kgs0 : wc.cell? ⟨gs, 0, none⟩ = some (.bool true) := (blk_cell SM.out.hs 0).trans rfl
      have kgs1 : wc.cell? ⟨gs, 1, none⟩ = some (.slice (some ⟨gr, 0, none⟩) ss.length cr) := (blk_cell SM.out.hs 1).trans rfl
      have kgs2 : wc.cell? ⟨gs, 2, none⟩ = some (.slice Ad dd.length cd) := (blk_cell SM.out.hs 2).trans rfl
      have kgl0 : wc.cell? ⟨gl, 0, none⟩ = some (.int .i64 n) := (blk_cell SM.out.hl 0).trans rfl
      have kgl1 : wc.cell? ⟨gl, 1, none⟩ = some (.slice A l.length c) := (blk_cell SM.out.hl 1).trans rfl
      go_wp2_with fail
      go_loopg [119] ss.length (fun kq v w' => ∃ j : Nat, v = .int .i64 j ∧ Aside0 (j + kq = ss.length) ∧ Aside0 (DoSt w w' gl gs ge gd [.int .i64 n, .slice A l.length c] [.bool true, .slice (some ⟨gr, 0, none⟩) ss.length cr, .slice Ad dd.length cd] [.int .i64 op, .int .i64 of, .int .i64 dir] [.int .i64 0, .bool false, .slice none 0 0, .slice none 0 0] (.slice (some ⟨gr, 0, none⟩) ss.length cr) (.slice Ad dd.length cd) (retoldTo l md ms j) md))
      case atStart => exact ⟨0, rfl, ⟨by omega⟩, ⟨by rw [retoldTo_zero]; exact SM.out⟩⟩
      case round =>
        obtain ⟨j, rfl, HJ, SL⟩ := hrel
        clear kge0 kge1 kge2 kgs0 kgs1 kgs2 kgl0 kgl1
        clear SM
        by_cases hlt : j < ss.length
        · cases gk with
          | zero => exact absurd HJ.out (by omega)
          | succ gk =>
            have hlt' : decide ((j : Int) < (ss.length : Int)) = true := decide_eq_true (by omega)
            have q0 : (0 : Int) ≤ (j : Int) := by omega
            have q1 : (j : Int) < (ss.length : Int) := by omega
            have q2 : ss.length ≤ 60 := by have := lay_n HN.out.1; have := HN.out.2.1; omega
            go_upto_block 2 with fail
            go_cut [11] from 121 to 130 (fun v11 wx => Aside0 (DoSt w wx gl gs ge gd [.int .i64 n, .slice A l.length c] [.bool true, .slice (some ⟨gr, 0, none⟩) ss.length cr, .slice Ad dd.length cd] [.int .i64 op, .int .i64 of, .int .i64 dir] [.int .i64 0, .bool false, .slice none 0 0, .slice none 0 0] (.slice (some ⟨gr, 0, none⟩) ss.length cr) (.slice Ad dd.length cd) (retoldTo l md ms (j + 1)) md))
            case first =>
              have HLL := Aside0.mk (show l.length ≤ 1048576 by have := lay_n HN.out.1; omega)
              have HML := Aside0.mk (show md.length = l.length by rw [HLD.out]; exact HN.out.2.2.1)
              have n1 : gr ≠ gs := fun e => Kd.R_ne SL.out.H1 SL.out.hs (by decide) (by rw [e]; rfl)
              have n2 : gr ≠ gl := fun e => Kd.R_ne SL.out.H1 SL.out.hl (by decide) (by rw [e]; rfl)
              have kgs0 : wr.cell? ⟨gs, 0, none⟩ = some (.bool true) := (blk_cell SL.out.hs 0).trans rfl
              have kgs1 : wr.cell? ⟨gs, 1, none⟩ = some (.slice (some ⟨gr, 0, none⟩) ss.length cr) := (blk_cell SL.out.hs 1).trans rfl
              have kgs2 : wr.cell? ⟨gs, 2, none⟩ = some (.slice Ad dd.length cd) := (blk_cell SL.out.hs 2).trans rfl
              have kgl0 : wr.cell? ⟨gl, 0, none⟩ = some (.int .i64 n) := (blk_cell SL.out.hl 0).trans rfl
              have kgl1 : wr.cell? ⟨gl, 1, none⟩ = some (.slice A l.length c) := (blk_cell SL.out.hl 1).trans rfl
              have SD := Aside0.mk (SL.out.up (below_drew1 (Below.refl _ _)))
              have hln : ss.length = (retoldTo l md ms j).length := by rw [retoldTo_length, HLM.out]
              have HLN := Aside0.mk hln
              have HLM2 := Aside0.mk (show dd.length = md.length from HLD.out.symm)
              clear hln
              go_upto_region 31 with fail
              go_region_held3 (fun w' => w'.cell? ⟨gl, 0, none⟩ = some (.int .i64 n) ∧ w'.cell? ⟨gl, 1, none⟩ = some (.slice A l.length c) ∧ w'.cell? ⟨gs, 0, none⟩ = some (.bool true) ∧ w'.cell? ⟨gs, 1, none⟩ = some (.slice (some ⟨gr, 0, none⟩) ss.length cr) ∧ w'.cell? ⟨gs, 2, none⟩ = some (.slice Ad dd.length cd))
                (first | go_keep | (go_split_ands; (repeat' apply And.intro) <;> (refine pw_cell_below hb ?_; assumption)) | (go_split_ands; (repeat' apply And.intro) <;> (rw [World.cell?_setCell_far _ _ _ _ (by assumption)]; assumption)))
                (first | (go_at_call 97; refine (told_of (j : Int) (Kd.C_below HR.out SD.out.hB) hc SD.out.H1 SD.out.H2 HLN.out HLM2.out HLL.out HML.out q0 q1).mono ?_; rintro e w' ⟨rfl, hb⟩; have S2 := Aside0.mk (SD.out.up hb); obtain ⟨z0, z1, z2, z3, z4, zf0, zf1, zf2, zf3, zf4⟩ := sec_at S2.out.H1 (j : Int) q0 q1; rw [Int.toNat_natCast] at z0 zf0; clear z1 z2 z3 z4 zf1 zf2 zf3 zf4))
              all_goals (go_wp2_with fail; go_meet)
              obtain ⟨hR, hg⟩ := (SecSt.start S2.out.H1 q0 q1).put0 q0 q1 (u := toldC l md (j : Int) (rd_T50 (retoldTo l md ms j) (j : Int))) (show j * 5 = (j : Int).toNat * 5 + 0 by rw [Int.toNat_natCast, Nat.add_zero])
              rw [retold_step l md ms j (by rw [HLM.out]; exact hlt)] at hR
              exact ⟨S2.out.sec hR hg⟩
            case rest =>
              go_wp2_with fail
              go_roundg gk
              case measure => omega
              case rel => exact ⟨j + 1, by go_num, ⟨by have := HJ.out; omega⟩, hcut⟩
        · have hlt' : decide ((j : Int) < (ss.length : Int)) = false := decide_eq_false (by omega)
          have hj : j = ss.length := by have := HJ.out; omega
          have hre : retoldTo l md ms j = retold l md ms := by rw [retold, HLM.out, hj]
          have SF0 := Aside0.mk (show DoSt w wr gl gs ge gd [.int .i64 n, .slice A l.length c] [.bool true, .slice (some ⟨gr, 0, none⟩) ss.length cr, .slice Ad dd.length cd] [.int .i64 op, .int .i64 of, .int .i64 dir] [.int .i64 0, .bool false, .slice none 0 0, .slice none 0 0] (.slice (some ⟨gr, 0, none⟩) ss.length cr) (.slice Ad dd.length cd) (doSecs l ss dd op of dir) (doDead l ss dd op of) by rw [← HDS.out, ← HDD.out, ← hre]; exact SL.out)
          clear hj hre SL
          have kgs0 : wr.cell? ⟨gs, 0, none⟩ = some (.bool true) := (blk_cell SF0.out.hs 0).trans rfl
          have kgs1 : wr.cell? ⟨gs, 1, none⟩ = some (.slice (some ⟨gr, 0, none⟩) ss.length cr) := (blk_cell SF0.out.hs 1).trans rfl
          have kgs2 : wr.cell? ⟨gs, 2, none⟩ = some (.slice Ad dd.length cd) := (blk_cell SF0.out.hs 2).trans rfl
          have kd0 : wr.cell? ⟨gd, 0, none⟩ = some (.int .i64 0) := (blk_cell SF0.out.hd 0).trans rfl
          have kz0 := blk_frozen SF0.out.hd 0
          have kd1 : wr.cell? ⟨gd, 1, none⟩ = some (.bool false) := (blk_cell SF0.out.hd 1).trans rfl
          have kz1 := blk_frozen SF0.out.hd 1
          have kd2 : wr.cell? ⟨gd, 2, none⟩ = some (.slice none 0 0) := (blk_cell SF0.out.hd 2).trans rfl
          have kz2 := blk_frozen SF0.out.hd 2
          have kd3 : wr.cell? ⟨gd, 3, none⟩ = some (.slice none 0 0) := (blk_cell SF0.out.hd 3).trans rfl
          have kz3 := blk_frozen SF0.out.hd 3
          go_wp2_with fail
          have SF := SF0.out.fill (y0 := .int .i64 0) (y1 := .bool true) (y2 := (.slice (some ⟨gr, 0, none⟩) ss.length cr)) (y3 := (.slice Ad dd.length cd))
          exact bodyPost_ret (results_cell_row rfl _ _ gd 48 _ (0, 0) _ rfl SF.hd Try.underlying48 rfl (by kernel_rfl)) rfl ⟨_, _, by rw [HC0.out], SF.H1, SF.H2, SF.hB⟩
end Go.Proofs.Ytpdnabhpkdchjaa.P
namespace Go.Proofs.Ytpdnabhpkdchjaa.P
open Go.RowKit Go.Proofs.YtpdnabhpkdchjaaW.PrintWords Go.Proofs.YtpdnabhpkdchjaaW.PrintLast Go.Proofs.YtpdnabhpkdchjaaW.PrintMore
set_option linter.unusedVariables false
set_option linter.unusedSimpArgs false
theorem secsFrom_at {l : List S88} {dd : List Bool} {ss : List S50} : ∀ (d i : Nat), secsFrom l dd ss d i = true → ∀ j, i ≤ j → j < i + d → secOk l dd (j : Int) (rd_T50 ss (j : Int)) = true := by
  intro d
  induction d with
  | zero => intro i h j h1 h2; omega
  | succ d ih =>
    intro i h j h1 h2
    simp only [secsFrom, Bool.and_eq_true] at h
    by_cases e : j = i
    · subst e; exact h.1
    · exact ih (i + 1) h.2 j (by omega) (by omega)
theorem secsFrom_of {l : List S88} {dd : List Bool} {ss : List S50} : ∀ (d i : Nat), (∀ j, i ≤ j → j < i + d → secOk l dd (j : Int) (rd_T50 ss (j : Int)) = true) → secsFrom l dd ss d i = true := by
  intro d
  induction d with
  | zero => intro i h; rfl
  | succ d ih =>
    intro i h
    simp only [secsFrom, Bool.and_eq_true]
    exact ⟨h i (Nat.le_refl _) (by omega), ih (i + 1) (fun j h1 h2 => h j (by omega) (by omega))⟩
theorem stateOk_of {n : Int} {l : List S88} {ok : Bool} {ss : List S50} {dd : List Bool} (h : stateOk n l ok ss dd = true) : layoutOk n l = 0 ∧ ok = true ∧ (ss.length : Int) = n ∧ dd.length = l.length ∧ ∀ j, j < ss.length → secOk l dd (j : Int) (rd_T50 ss (j : Int)) = true := by
  simp only [stateOk, Bool.and_eq_true, decide_eq_true_eq] at h
  exact ⟨h.1.1.1.1, h.1.1.1.2, h.1.1.2, h.1.2, fun j hj => secsFrom_at _ 0 h.2 j (by omega) (by omega)⟩
theorem stateOk_mk {n : Int} {l : List S88} {ok : Bool} {ss : List S50} {dd : List Bool} (h1 : layoutOk n l = 0) (h2 : ok = true) (h3 : (ss.length : Int) = n) (h4 : dd.length = l.length) (h5 : ∀ j, j < ss.length → secOk l dd (j : Int) (rd_T50 ss (j : Int)) = true) : stateOk n l ok ss dd = true := by
  simp only [stateOk, Bool.and_eq_true, decide_eq_true_eq]
  exact ⟨⟨⟨⟨h1, h2⟩, h3⟩, h4⟩, secsFrom_of _ 0 (fun j _ hj => h5 j (by omega))⟩
end Go.Proofs.Ytpdnabhpkdchjaa.P
namespace Go.Proofs.Ytpdnabhpkdchjaa.P
open Go.RowKit Go.Proofs.YtpdnabhpkdchjaaW.PrintWords Go.Proofs.YtpdnabhpkdchjaaW.PrintLast Go.Proofs.YtpdnabhpkdchjaaW.PrintMore
set_option linter.unusedVariables false
def runStep (n : Int) (l : List S88) (s : S46) (e : S56) : S48 :=
  if eventOk n l e.f0 e.f1 e.f2 = true then ⟨doCode l s.f1 s.f2 e.f0 e.f1, ⟨true, doSecs l s.f1 s.f2 e.f0 e.f1 e.f2, doDead l s.f1 s.f2 e.f0 e.f1⟩⟩ else ⟨1, ⟨true, s.f1, s.f2⟩⟩
def st0 (n : Int) (l : List S88) : S46 := ⟨true, List.replicate n.toNat z50, List.replicate l.length false⟩
def stAt (n : Int) (l : List S88) (es : List S56) (k : Nat) : S46 := (es.take k).foldl (fun s e => (runStep n l s e).f1) (st0 n l)
def runTo (n : Int) (l : List S88) (es : List S56) (k : Nat) : List S48 := (List.range k).map fun j => runStep n l (stAt n l es j) (rd_T56 es (j : Int))
def run (n : Int) (l : List S88) (es : List S56) : List S48 := if layoutOk n l = 0 ∧ es.length ≤ 2000 then runTo n l es es.length else []
theorem runTo_length (n : Int) (l : List S88) (es : List S56) (k : Nat) : (runTo n l es k).length = k := by simp [runTo]
theorem runTo_succ (n : Int) (l : List S88) (es : List S56) (k : Nat) : runTo n l es (k + 1) = runTo n l es k ++ [runStep n l (stAt n l es k) (rd_T56 es (k : Int))] := by
  simp [runTo, List.range_succ]
theorem stAt_succ (n : Int) (l : List S88) (es : List S56) (k : Nat) (h : k < es.length) : stAt n l es (k + 1) = (runStep n l (stAt n l es k) (rd_T56 es (k : Int))).f1 := by
  rw [stAt, List.take_succ_eq_append_getElem h, List.foldl_append, rd56 es k h]
  rfl
theorem stAt_zero (n : Int) (l : List S88) (es : List S56) : stAt n l es 0 = st0 n l := by simp [stAt]
theorem runStep_len (n : Int) (l : List S88) (s : S46) (e : S56) : (runStep n l s e).f1.f1.length = s.f1.length ∧ (runStep n l s e).f1.f2.length = s.f2.length ∧ (runStep n l s e).f1.f0 = true := by
  unfold runStep
  split
  · exact ⟨doSecs_length _ _ _ _ _ _, doDead_length _ _ _ _ _, rfl⟩
  · exact ⟨rfl, rfl, rfl⟩
theorem stAt_len (n : Int) (l : List S88) (es : List S56) (k : Nat) : (stAt n l es k).f1.length = n.toNat ∧ (stAt n l es k).f2.length = l.length ∧ (stAt n l es k).f0 = true := by
  unfold stAt
  have h : ∀ (es : List S56) (s : S46), s.f1.length = n.toNat ∧ s.f2.length = l.length ∧ s.f0 = true → (es.foldl (fun s e => (runStep n l s e).f1) s).f1.length = n.toNat ∧ (es.foldl (fun s e => (runStep n l s e).f1) s).f2.length = l.length ∧ (es.foldl (fun s e => (runStep n l s e).f1) s).f0 = true := by
    intro es
    induction es with
    | nil => intro s h; exact h
    | cons e es ih =>
      intro s h
      have := runStep_len n l s e
      exact ih _ ⟨by rw [this.1]; exact h.1, by rw [this.2.1]; exact h.2.1, this.2.2⟩
  exact h _ _ ⟨by simp [st0], by simp [st0], rfl⟩
def secFine (l : List S88) (dd : List Bool) (s : Int) (x : S50) : Bool := secRange x && secRest (deadAt l dd s) x
theorem fine_iff (l : List S88) (dd : List Bool) (s : Int) (x : S50) : secFine l dd s x = true ↔ (-1000000 ≤ x.f1 ∧ x.f1 ≤ 1000000 ∧ -1 ≤ x.f4 ∧ x.f4 ≤ 1) ∧ ((x.f1 < 0 ∨ deadAt l dd s = true) → x.f2 = true) ∧ (x.f3 = true ∧ x.f1 = 0 ∧ x.f4 = -1 → x.f2 = true) := by
  simp only [secFine, secRange, secRest, Bool.and_eq_true, decide_eq_true_eq, Bool.not_eq_true', Bool.and_eq_false_iff, Bool.or_eq_false_iff, Bool.not_eq_false', decide_eq_false_iff_not]
  cases x.f2 <;> cases x.f3 <;> cases deadAt l dd s <;> simp <;> omega
theorem ok_iff (l : List S88) (dd : List Bool) (s : Int) (x : S50) : secOk l dd s x = true ↔ x.f0 = toldC l dd s x ∧ secFine l dd s x = true := by
  simp only [secOk, secFine, Bool.and_eq_true, decide_eq_true_eq]
  exact ⟨fun h => ⟨h.1.2, h.1.1, h.2⟩, fun h => ⟨⟨h.2.1, h.1⟩, h.2.2⟩⟩
theorem tell_ok {l : List S88} {dd : List Bool} {i : Nat} {x : S50} (h : secFine l dd (i : Int) x = true) : secOk l dd (i : Int) (tellS l dd i x) = true := by
  rw [ok_iff]
  exact ⟨rfl, h⟩
theorem retold_get (l : List S88) (dd : List Bool) (ss : List S50) (i : Nat) (h : i < ss.length) : rd_T50 (retold l dd ss) (i : Int) = tellS l dd i (rd_T50 ss (i : Int)) := by
  simp [rd_T50, retold, retoldTo, h]
theorem retold_fine {l : List S88} {dd : List Bool} {ss : List S50} (h : ∀ j, j < ss.length → secFine l dd (j : Int) (rd_T50 ss (j : Int)) = true) : ∀ j, j < (retold l dd ss).length → secOk l dd (j : Int) (rd_T50 (retold l dd ss) (j : Int)) = true := by
  intro j hj
  rw [retold_length] at hj
  rw [retold_get l dd ss j hj]
  exact tell_ok (h j hj)
theorem count_fine {l : List S88} {dd : List Bool} {s : Int} {x : S50} {b : Int} (hb : b = 1 ∨ b = -1) (h : secFine l dd s x = true) : secFine l dd s (countS x b) = true := by
  rw [fine_iff] at h ⊢
  obtain ⟨⟨h1, h2, h3, h4⟩, h5, h6⟩ := h
  have hc : -1000000 ≤ cntN x b ∧ cntN x b ≤ 1000000 := by
    unfold cntN
    split
    · rename_i h; exact h
    · exact ⟨h1, h2⟩
  simp only [countS]
  refine ⟨⟨hc.1, hc.2, by omega, by omega⟩, fun h => ?_, fun h => ?_⟩
  · rcases h with h | h
    · rw [decide_eq_true h, Bool.or_true]
    · rw [h5 (.inr h), Bool.true_or]
  · obtain ⟨k1, k2, k3⟩ := h
    rw [k2, k3] at k1
    simp at k1
theorem addS_get (ss : List S50) (s b : Int) (j : Nat) (hj : j < ss.length) : rd_T50 (addS ss s b) (j : Int) = if s = (j : Int) then countS (rd_T50 ss (j : Int)) b else rd_T50 ss (j : Int) := by
  unfold addS
  by_cases h : s < 0
  · rw [if_pos h, if_neg (by omega)]
  · rw [if_neg h]
    by_cases e : s = (j : Int)
    · subst e
      simp [rd_T50, hj]
    · have : s.toNat ≠ j := by omega
      rw [if_neg e]
      simp [rd_T50, List.getElem?_set_ne this]
theorem loseAt_get (ss : List S50) (s : Int) (j : Nat) (hj : j < ss.length) : rd_T50 (loseAt ss s) (j : Int) = if s = (j : Int) then loseS (rd_T50 ss (j : Int)) else rd_T50 ss (j : Int) := by
  unfold loseAt
  by_cases h : s < 0
  · rw [if_pos h, if_neg (by omega)]
  · rw [if_neg h]
    by_cases e : s = (j : Int)
    · subst e
      simp [rd_T50, hj]
    · have : s.toNat ≠ j := by omega
      rw [if_neg e]
      simp [rd_T50, List.getElem?_set_ne this]
theorem add_fine {l : List S88} {dd : List Bool} {ss : List S50} {s b : Int} (hb : b = 1 ∨ b = -1) (h : ∀ j, j < ss.length → secFine l dd (j : Int) (rd_T50 ss (j : Int)) = true) : ∀ j, j < (addS ss s b).length → secFine l dd (j : Int) (rd_T50 (addS ss s b) (j : Int)) = true := by
  intro j hj
  rw [addS_length] at hj
  rw [addS_get ss s b j hj]
  split
  · exact count_fine hb (h j hj)
  · exact h j hj
theorem deadFrom_mono {l : List S88} {dd dd' : List Bool} {s : Int} (h : ∀ i : Nat, rdOf false dd' (i : Int) = true → hits s (rd_T88 l (i : Int)) = true → rdOf false dd (i : Int) = true) : ∀ d i, deadFrom l dd' s d i = true → deadFrom l dd s d i = true := by
  intro d
  induction d with
  | zero => intro i hd; exact hd
  | succ d ih =>
    intro i hd
    simp only [deadFrom, Bool.or_eq_true, Bool.and_eq_true] at hd ⊢
    rcases hd with ⟨h1, h2⟩ | h1
    · exact .inl ⟨h i h1 h2, h2⟩
    · exact .inr (ih _ h1)
theorem rdOf_set (dd : List Bool) (k i : Nat) (b : Bool) : rdOf false (dd.set k b) (i : Int) = if k = i ∧ i < dd.length then b else rdOf false dd (i : Int) := by
  unfold rdOf
  simp only [Int.toNat_natCast, List.getD_eq_getElem?_getD, List.getElem?_set]
  by_cases e : k = i
  · subst e
    by_cases h : k < dd.length
    · simp [h]
    · simp [h]
  · simp [e]
theorem dead_less {l : List S88} {dd : List Bool} {s : Int} {k : Nat} (h : deadAt l (dd.set k false) s = true) : deadAt l dd s = true := by
  refine deadFrom_mono (fun i h1 _ => ?_) _ _ h
  rw [rdOf_set] at h1
  split at h1
  · cases h1
  · exact h1
theorem dead_more {l : List S88} {dd : List Bool} {s : Int} {k : Nat} (h : deadAt l (dd.set k true) s = true) (hn : hits s (rd_T88 l (k : Int)) = false) : deadAt l dd s = true := by
  refine deadFrom_mono (fun i h1 h2 => ?_) _ _ h
  rw [rdOf_set] at h1
  split at h1
  · rename_i e
    rw [← e.1, hn] at h2
    cases h2
  · exact h1
theorem lose_fine {l : List S88} {dd dd' : List Bool} {s : Int} {x : S50} (h : secFine l dd s x = true) : secFine l dd' s (loseS x) = true := by
  rw [fine_iff] at h ⊢
  exact ⟨h.1, fun _ => rfl, fun _ => rfl⟩
theorem fine_dead {l : List S88} {dd dd' : List Bool} {s : Int} {x : S50} (hd : deadAt l dd' s = true → deadAt l dd s = true) (h : secFine l dd s x = true) : secFine l dd' s x = true := by
  rw [fine_iff] at h ⊢
  exact ⟨h.1, fun k => h.2.1 (k.imp id hd), h.2.2⟩
theorem do_fine {n : Int} {l : List S88} {ss : List S50} {dd : List Bool} {op of dir : Int} (hl : layoutOk n l = 0) (hd : dd.length = l.length) (h : ∀ j, j < ss.length → secFine l dd (j : Int) (rd_T50 ss (j : Int)) = true) (hev : eventOk n l op of dir = true) (hc : doCode l ss dd op of = 0) :
    ∀ j, j < (midSecs l ss op of dir).length → secFine l (midDead dd op of) (j : Int) (rd_T50 (midSecs l ss op of dir) (j : Int)) = true := by
  have key : ((op = 1 ∨ op = 2) ∧ 0 ≤ of ∧ of < (l.length : Int)) ∨ ((op = 3 ∨ op = 4) ∧ 0 ≤ of ∧ of < (l.length : Int)) ∨ (op = 5 ∧ 0 ≤ of ∧ of < n) := by
    unfold eventOk at hev
    rw [if_pos hl] at hev
    split at hev
    · rename_i h1; simp at hev; exact .inl ⟨h1, hev.1.1, hev.1.2⟩
    · split at hev
      · rename_i h1; simp at hev; exact .inr (.inl ⟨h1, hev.1.1, hev.1.2⟩)
      · split at hev
        · rename_i h1; simp at hev; exact .inr (.inr ⟨h1, hev.1.1, hev.1.2⟩)
        · cases hev
  rcases key with ⟨rfl | rfl, o0, o1⟩ | ⟨rfl | rfl, o0, o1⟩ | ⟨rfl, o0, o1⟩
  · have e1 : midSecs l ss 1 of dir = addS (addS ss (if dir = -1 then (rd_T88 l of).f1 else (rd_T88 l of).f0) (-1)) (if dir = -1 then (rd_T88 l of).f0 else (rd_T88 l of).f1) 1 := by simp [midSecs]
    have e2 : midDead dd 1 of = dd := by simp [midDead]
    rw [e1, e2]
    exact add_fine (.inl rfl) (add_fine (.inr rfl) h)
  · have e1 : midSecs l ss 2 of dir = addS ss (if dir = -1 then (rd_T88 l of).f0 else (rd_T88 l of).f1) 1 := by simp [midSecs]
    have e2 : midDead dd 2 of = dd := by simp [midDead]
    rw [e1, e2]
    exact add_fine (.inl rfl) h
  · have e1 : midSecs l ss 3 of dir = loseAt (loseAt ss (rd_T88 l of).f0) (rd_T88 l of).f1 := by simp [midSecs]
    have e2 : midDead dd 3 of = dd.set of.toNat true := by simp [midDead]
    rw [e1, e2]
    intro j hj
    rw [loseAt_length, loseAt_length] at hj
    rw [loseAt_get _ _ _ (by rw [loseAt_length]; exact hj), loseAt_get _ _ _ hj]
    by_cases f1 : (rd_T88 l of).f1 = (j : Int)
    · rw [if_pos f1]
      split
      · exact lose_fine (lose_fine (dd' := dd) (h j hj))
      · exact lose_fine (h j hj)
    · rw [if_neg f1]
      by_cases f0 : (rd_T88 l of).f0 = (j : Int)
      · rw [if_pos f0]; exact lose_fine (h j hj)
      · rw [if_neg f0]
        refine fine_dead (fun hx => dead_more hx ?_) (h j hj)
        rw [show ((of.toNat : Nat) : Int) = of by omega]
        simp [hits, f0, f1]
  · have e1 : midSecs l ss 4 of dir = ss := by simp [midSecs]
    have e2 : midDead dd 4 of = dd.set of.toNat false := by simp [midDead]
    rw [e1, e2]
    intro j hj
    exact fine_dead dead_less (h j hj)
  · have e1 : midSecs l ss 5 of dir = ss.set of.toNat ⟨0, 0, false, true, 0⟩ := by simp [midSecs]
    have e2 : midDead dd 5 of = dd := by simp [midDead]
    rw [e1, e2]
    intro j hj
    rw [List.length_set] at hj
    by_cases e : of.toNat = j
    · have hdd : deadAt l dd of = false := by
        cases hx : deadAt l dd of with
        | false => rfl
        | true =>
          rw [doCode, if_neg (by decide), if_pos rfl, if_pos hx] at hc
          exact absurd hc (by decide)
      have e3 : ((j : Nat) : Int) = of := by omega
      rw [show rd_T50 (ss.set of.toNat ⟨0, 0, false, true, 0⟩) (j : Int) = ⟨0, 0, false, true, 0⟩ by subst e; rw [rd_T50, Int.toNat_natCast]; simp [hj], e3, fine_iff]
      refine ⟨by simp, fun h => ?_, fun h => by simp at h⟩
      rw [hdd] at h
      simp at h
    · rw [show rd_T50 (ss.set of.toNat ⟨0, 0, false, true, 0⟩) (j : Int) = rd_T50 ss (j : Int) by simp [rd_T50, List.getElem?_set_ne e]]
      exact h j hj
theorem do_ok {n : Int} {l : List S88} {ss : List S50} {dd : List Bool} {op of dir : Int} (hl : layoutOk n l = 0) (hd : dd.length = l.length) (h : ∀ j, j < ss.length → secOk l dd (j : Int) (rd_T50 ss (j : Int)) = true) (hev : eventOk n l op of dir = true) :
    ∀ j, j < (doSecs l ss dd op of dir).length → secOk l (doDead l ss dd op of) (j : Int) (rd_T50 (doSecs l ss dd op of dir) (j : Int)) = true := by
  by_cases hc : doCode l ss dd op of = 0
  · unfold doSecs doDead
    rw [if_pos hc, if_pos hc]
    exact retold_fine (do_fine hl hd (fun j hj => ((ok_iff _ _ _ _).1 (h j hj)).2) hev hc)
  · unfold doSecs doDead
    rw [if_neg hc, if_neg hc]
    exact h
theorem step_ok {n : Int} {l : List S88} {s : S46} {e : S56} (h : stateOk n l s.f0 s.f1 s.f2 = true) : stateOk n l (runStep n l s e).f1.f0 (runStep n l s e).f1.f1 (runStep n l s e).f1.f2 = true := by
  obtain ⟨hl, ho, hn, hd, hsec⟩ := stateOk_of h
  unfold runStep
  split
  · rename_i hev
    exact stateOk_mk hl rfl (by rw [doSecs_length]; exact hn) (by rw [doDead_length]; exact hd) (do_ok hl hd hsec hev)
  · exact stateOk_mk hl rfl hn hd hsec
theorem anyFalse (l : List S88) (m : Nat) (s : Int) : deadAt l (List.replicate m false) s = false := by
  have h : ∀ d i, deadFrom l (List.replicate m false) s d i = false := by
    intro d
    induction d with
    | zero => intro i; rfl
    | succ d ih =>
      intro i
      have hr : rdOf false (List.replicate m false) (i : Int) = false := by
        simp only [rdOf, List.getD_eq_getElem?_getD, List.getElem?_replicate]; split <;> rfl
      simp only [deadFrom, hr, ih, Bool.false_and, Bool.or_self]
  exact h _ _
theorem st0_ok {n : Int} {l : List S88} (hl : layoutOk n l = 0) : stateOk n l (st0 n l).f0 (st0 n l).f1 (st0 n l).f2 = true := by
  have hn := lay_n hl
  refine stateOk_mk hl rfl (by simp [st0]; omega) (by simp [st0]) (fun j hj => ?_)
  have hz : rd_T50 (List.replicate n.toNat z50) (j : Int) = z50 := by
    simp only [rd_T50, List.getD_eq_getElem?_getD, List.getElem?_replicate]; split <;> rfl
  show secOk l (List.replicate l.length false) (j : Int) (rd_T50 (List.replicate n.toNat z50) (j : Int)) = true
  rw [hz, ok_iff, fine_iff, toldC, anyFalse]
  simp [z50]
theorem stAt_ok {n : Int} {l : List S88} (hl : layoutOk n l = 0) (es : List S56) (k : Nat) : stateOk n l (stAt n l es k).f0 (stAt n l es k).f1 (stAt n l es k).f2 = true := by
  unfold stAt
  have h : ∀ (es : List S56) (s : S46), stateOk n l s.f0 s.f1 s.f2 = true → stateOk n l (es.foldl (fun s e => (runStep n l s e).f1) s).f0 (es.foldl (fun s e => (runStep n l s e).f1) s).f1 (es.foldl (fun s e => (runStep n l s e).f1) s).f2 = true := by
    intro es
    induction es with
    | nil => intro s h; exact h
    | cons e es ih => intro s h; exact ih _ (step_ok h)
  exact h _ _ (st0_ok hl)
end Go.Proofs.Ytpdnabhpkdchjaa.P
namespace Go.Proofs.Ytpdnabhpkdchjaa.P
open Go.RowKit Go.Proofs.YtpdnabhpkdchjaaW.PrintWords Go.Proofs.YtpdnabhpkdchjaaW.PrintLast Go.Proofs.YtpdnabhpkdchjaaW.PrintMore
set_option linter.unusedVariables false
structure RnSt (w0 w : World) (gl gs : Nat) (lv sv : List Value) (u1 u2 : Value) (s : S46) (v : Value) (out : List S48) : Prop where
  hl : w.heap[gl]? = some (.cells lv.toArray 30 (0, 0))
  hs : w.heap[gs]? = some (.cells sv.toArray 46 (0, 0))
  V1 : Kd.V k50 50 w w0.heap.size (fun k => some k = u1.ownBlock) u1 s.f1
  V2 : Kd.V Kd.bool 4 w w0.heap.size (fun k => some k = u2.ownBlock) u2 s.f2
  HS : Kd.S k48 48 w w0.heap.size (fun _ => True) v out
  hB : Below w0.heap.size w0 w
  gle : w0.heap.size ≤ gl
  gse : w0.heap.size ≤ gs
structure MdSt (w0 wr w : World) (gl gs gd : Nat) (lv sv dv : List Value) (v2 v3 : Value) (ss : List S50) (dd : List Bool) (v : Value) (out : List S48) : Prop where
  hl : w.heap[gl]? = some (.cells lv.toArray 30 (0, 0))
  hs : w.heap[gs]? = some (.cells sv.toArray 46 (0, 0))
  hd : w.heap[gd]? = some (.cells dv.toArray 48 (0, 0))
  R1 : Kd.R k50 50 w wr.heap.size (fun _ => True) v2 ss
  R2 : Kd.R Kd.bool 4 w wr.heap.size (fun _ => True) v3 dd
  HS : Kd.S k48 48 w w0.heap.size (fun k => k < wr.heap.size) v out
  hB : Below w0.heap.size w0 w
  gle : w0.heap.size ≤ gl
  gse : w0.heap.size ≤ gs
  gde : wr.heap.size ≤ gd
  hw : w0.heap.size ≤ wr.heap.size
section
variable {w0 wr w w' w1 : World} {gl gs gd : Nat} {lv sv dv : List Value} {u1 u2 v v1 v2 v3 : Value} {s : S46} {ss : List S50} {dd : List Bool} {out : List S48}
theorem RnSt.up (h : RnSt w0 w gl gs lv sv u1 u2 s v out) (hb : Below w.heap.size w w') : RnSt w0 w' gl gs lv sv u1 u2 s v out where
  hl := blk_below h.hl hb
  hs := blk_below h.hs hb
  V1 := Kd.V_below h.V1 hb
  V2 := Kd.V_below h.V2 hb
  HS := Kd.S_below h.HS hb
  hB := below_step h.hB hb
  gle := h.gle
  gse := h.gse
theorem RnSt.mid (h : RnSt w0 wr gl gs lv sv u1 u2 s v out) (hb : Below wr.heap.size wr w) (hd : w.heap[gd]? = some (.cells dv.toArray 48 (0, 0))) (gde : wr.heap.size ≤ gd) (R1 : Kd.R k50 50 w wr.heap.size (fun _ => True) v2 ss) (R2 : Kd.R Kd.bool 4 w wr.heap.size (fun _ => True) v3 dd) :
    MdSt w0 wr w gl gs gd lv sv dv v2 v3 ss dd v out where
  hl := blk_below h.hl hb
  hs := blk_below h.hs hb
  hd := hd
  R1 := R1
  R2 := R2
  HS := Kd.S_below (Kd.S_mono (Kd.S_bound h.HS) (fun _ hk => hk.2.2.1)) hb
  hB := below_step h.hB hb
  gle := h.gle
  gse := h.gse
  gde := gde
  hw := h.hB.size
def okp (v2 v3 : Value) (k : Nat) : Prop := some k = v2.ownBlock ∨ some k = v3.ownBlock
theorem own_from {α : Type} {d : Kd α} {e : Nat} {base : Nat} {ok : Nat → Prop} {xs : List α} (h : d.R e w base ok v xs) (k : Nat) (hk : v.ownBlock = some k) : base ≤ k := by
  rcases Kd.R_base2 h with h2 | ⟨j, h2, h3⟩
  · rw [h2] at hk; cases hk
  · rw [h2] at hk; cases hk; exact h3
theorem MdSt.okp_new (h : MdSt w0 wr w gl gs gd lv sv dv v2 v3 ss dd v out) {k : Nat} (hk : okp v2 v3 k) : wr.heap.size ≤ k := by
  rcases hk with hk | hk
  · exact own_from h.R1 k hk.symm
  · exact own_from h.R2 k hk.symm
theorem MdSt.okp_ne (h : MdSt w0 wr w gl gs gd lv sv dv v2 v3 ss dd v out) {k : Nat} (hk : okp v2 v3 k) : some k ≠ v.ownBlock := by
  intro e
  have h1 := h.okp_new hk
  have h2 : k < wr.heap.size := (Kd.S_R h.HS).1 k e.symm
  omega
theorem MdSt.rest (h : MdSt w0 wr w gl gs gd lv sv dv v2 v3 ss dd v out) : Kd.S k48 48 w w0.heap.size (fun k => True ∧ ¬ okp v2 v3 k) v out :=
  Kd.S_mono h.HS (fun k hk => ⟨trivial, fun hp => by have := h.okp_new hp; omega⟩)
theorem MdSt.elem (h : MdSt w0 wr w gl gs gd lv sv dv v2 v3 ss dd v out) (code : Int) (b : Bool) : k48.M w w0.heap.size (okp v2 v3) ⟨code, ⟨b, ss, dd⟩⟩ [.int .i64 code, .bool b, v2, v3] :=
  k48_mkM w _ _ ⟨code, ⟨b, ss, dd⟩⟩ (Kd.R_mono (Kd.R_tight rfl (Kd.R_lower h.R1 h.hw)) (fun _ hk => .inl hk)) (Kd.R_mono (Kd.R_tight rfl (Kd.R_lower h.R2 h.hw)) (fun _ hk => .inr hk))
theorem MdSt.fin {x0 x1 x2 : Value} (h : MdSt w0 wr w gl gs gd lv [x0, x1, x2] dv v2 v3 ss dd v out) {code : Int} {b : Bool} (HS1 : Kd.S k48 48 w1 w0.heap.size (fun _ => True) v1 (out ++ [⟨code, ⟨b, ss, dd⟩⟩])) (hB1 : Below w0.heap.size w0 w1) (hg : w.grownBy w1 v.ownBlock) :
    RnSt w0 (((w1.setCell ⟨gs, 0, none⟩ (.bool b)).setCell ⟨gs, 1, none⟩ v2).setCell ⟨gs, 2, none⟩ v3) gl gs lv [.bool b, v2, v3] v2 v3 ⟨b, ss, dd⟩ v1 (out ++ [⟨code, ⟨b, ss, dd⟩⟩]) := by
  have ngs : ∀ k, some k = v2.ownBlock → k ≠ gs := fun k hk e => Kd.R_ne h.R1 h.hs (by decide) (e ▸ hk)
  have ngs3 : ∀ k, some k = v3.ownBlock → k ≠ gs := fun k hk e => Kd.R_ne h.R2 h.hs (by decide) (e ▸ hk)
  have hl1 := blk_grown h.hl hg (Kd.S_ne h.HS h.hl (by decide))
  have hs1 := blk_grown h.hs hg (Kd.S_ne h.HS h.hs (by decide))
  have ne := blk_ne hl1 hs1 (by decide)
  have W1 : Kd.V k50 50 w1 w0.heap.size (fun k => some k = v2.ownBlock) v2 ss := Kd.V_grown (Kd.R_V (Kd.R_tight rfl h.R1)) hg (fun k hk => h.okp_ne (.inl hk))
  have W2 : Kd.V Kd.bool 4 w1 w0.heap.size (fun k => some k = v3.ownBlock) v3 dd := Kd.V_grown (Kd.R_V (Kd.R_tight rfl h.R2)) hg (fun k hk => h.okp_ne (.inr hk))
  have hq : ∀ q, q ∈ 48 :: k48.E → q ≠ 46 := by decide
  have s0 := blk_put hs1 0 (.bool b) rfl
  have s1 := blk_put s0 1 v2 rfl
  have s2 := blk_put s1 2 v3 rfl
  exact {
    hl := blk_far (blk_far (blk_far hl1 ne _) ne _) ne _
    hs := s2
    V1 := Kd.V_far (Kd.V_far (Kd.V_far W1 (p := ⟨gs, 0, none⟩) ngs _) (p := ⟨gs, 1, none⟩) ngs _) (p := ⟨gs, 2, none⟩) ngs _
    V2 := Kd.V_far (Kd.V_far (Kd.V_far W2 (p := ⟨gs, 0, none⟩) ngs3 _) (p := ⟨gs, 1, none⟩) ngs3 _) (p := ⟨gs, 2, none⟩) ngs3 _
    HS := Kd.S_set (Kd.S_set (Kd.S_set HS1 hs1 hq 0 _) s0 hq 1 _) s1 hq 2 _
    hB := below_set (below_set (below_set hB1 h.gse) h.gse) h.gse
    gle := h.gle
    gse := h.gse }
theorem MdSt.at_ (h : MdSt w0 wr w gl gs gd lv sv dv v2 v3 ss dd v out) (hg : w.grownBy w1 v.ownBlock) : w1.heap[gd]? = some (.cells dv.toArray 48 (0, 0)) ∧ w1.heap[gs]? = some (.cells sv.toArray 46 (0, 0)) :=
  ⟨blk_grown h.hd hg (fun e => by have := (Kd.S_R h.HS).1 gd e.symm; have := h.gde; omega), blk_grown h.hs hg (Kd.S_ne h.HS h.hs (by decide))⟩
theorem MdSt.up (h : MdSt w0 wr w gl gs gd lv sv dv v2 v3 ss dd v out) (hb : Below w.heap.size w w') : MdSt w0 wr w' gl gs gd lv sv dv v2 v3 ss dd v out where
  hl := blk_below h.hl hb
  hs := blk_below h.hs hb
  hd := blk_below h.hd hb
  R1 := R_up h.R1 hb
  R2 := R_up h.R2 hb
  HS := Kd.S_below h.HS hb
  hB := below_step h.hB hb
  gle := h.gle
  gse := h.gse
  gde := h.gde
  hw := h.hw
theorem RnSt.midA {code : Int} {b : Bool} (h : RnSt w0 wr gl gs lv sv u1 u2 s v out) (hb : Below wr.heap.size wr w) (R1 : Kd.R k50 50 w wr.heap.size (fun _ => True) v2 ss) (R2 : Kd.R Kd.bool 4 w wr.heap.size (fun _ => True) v3 dd) :
    MdSt w0 wr (w.alloc (.cells #[.int .i64 code, .bool b, v2, v3] 48)) gl gs w.heap.size lv sv [.int .i64 code, .bool b, v2, v3] v2 v3 ss dd v out ∧ Below wr.heap.size wr (w.alloc (.cells #[.int .i64 code, .bool b, v2, v3] 48)) :=
  ⟨h.mid (below_alloc hb _) (heap_alloc_new w _) hb.size (R_up R1 (below_alloc (Below.refl _ _) _)) (R_up R2 (below_alloc (Below.refl _ _) _)), below_alloc hb _⟩
theorem RnSt.midB {code : Int} {b : Bool} {x0 x1 x2 x3 : Value} (h : RnSt w0 wr gl gs lv sv u1 u2 s v out) (hb : Below wr.heap.size wr w) (hd : w.heap[gd]? = some (.cells #[x0, x1, x2, x3] 48 (0, 0))) (gde : wr.heap.size ≤ gd) (R1 : Kd.R k50 50 w wr.heap.size (fun _ => True) v2 ss) (R2 : Kd.R Kd.bool 4 w wr.heap.size (fun _ => True) v3 dd) :
    MdSt w0 wr ((((w.setCell ⟨gd, 0, none⟩ (.int .i64 code)).setCell ⟨gd, 1, none⟩ (.bool b)).setCell ⟨gd, 2, none⟩ v2).setCell ⟨gd, 3, none⟩ v3) gl gs gd lv sv [.int .i64 code, .bool b, v2, v3] v2 v3 ss dd v out ∧
    Below wr.heap.size wr ((((w.setCell ⟨gd, 0, none⟩ (.int .i64 code)).setCell ⟨gd, 1, none⟩ (.bool b)).setCell ⟨gd, 2, none⟩ v2).setCell ⟨gd, 3, none⟩ v3) := by
  have B := below_set (j := 3) (v := v3) (below_set (j := 2) (v := v2) (below_set (j := 1) (v := .bool b) (below_set (j := 0) (v := .int .i64 code) hb gde) gde) gde) gde
  have n1 := Kd.R_ne R1 hd (by decide)
  have n2 := Kd.R_ne R2 hd (by decide)
  exact ⟨h.mid B (blk_put (blk_put (blk_put (blk_put hd 0 _ rfl) 1 _ rfl) 2 _ rfl) 3 _ rfl) gde (R_off rfl (R_off rfl (R_off rfl (R_off rfl R1 n1 _) n1 _) n1 _) n1 _) (R_off rfl (R_off rfl (R_off rfl (R_off rfl R2 n2 _) n2 _) n2 _) n2 _), B⟩
end
theorem alloc_blk {w w' : World} {o : Obj} (hb : Below (w.alloc o).heap.size (w.alloc o) w') : w'.heap[w.heap.size]? = some o := blk_below (heap_alloc_new w o) hb
theorem alloc_blk_drew {w w' : World} {o : Obj} (hb : Below (w.alloc o).drew.heap.size (w.alloc o).drew w') : w'.heap[w.heap.size]? = some o := blk_below (blk_drew (heap_alloc_new w o)) hb
theorem begin_is {n : Int} {A : Option Addr} {c : Nat} {l : List S88} {w : World} (hr : Kd.C k88 w A l.length l) (hc : l.length ≤ c) (hl : layoutOk n l = 0) :
    Calls Try.prog 44 #[.agg #[.int .i64 n, .slice A l.length c]] w fun e w' => ∃ v1_ v2_ : Value, e = .returned (.agg #[.bool true, v1_, v2_]) ∧ Kd.R k50 50 w' w.heap.size (fun _ => True) v1_ (st0 n l).f1 ∧ Kd.R Kd.bool 4 w' w.heap.size (fun _ => True) v2_ (st0 n l).f2 ∧ Below w.heap.size w w' := by
  have h := impl_Begin.calls n A c l (begin3 n l).1 (begin3 n l).2.1 (begin3 n l).2.2 w hr hc (implBegin_eq n l)
  rw [show begin3 n l = (true, (st0 n l).f1, (st0 n l).f2) by rw [begin3, if_pos hl]; rfl] at h
  exact h
end Go.Proofs.Ytpdnabhpkdchjaa.P
namespace Go.Proofs.Ytpdnabhpkdchjaa.P
open Go.RowKit Go.Proofs.YtpdnabhpkdchjaaW.PrintWords Go.Proofs.YtpdnabhpkdchjaaW.PrintLast Go.Proofs.YtpdnabhpkdchjaaW.PrintMore
attribute [local go_sem ↓] Go.wp_at_zero Go.wp_at_succ
set_option linter.unusedVariables false
set_option linter.unusedSimpArgs false
set_option maxHeartbeats 8000000 in
set_option maxRecDepth 100000 in
theorem run_is (n : Int) (A : Option Addr) (c : Nat) (l : List S88) (A1 : Option Addr) (c1 : Nat) (es : List S56) (w : World) (hr : Kd.C k88 w A l.length l) (hc : l.length ≤ c) (hr1 : Kd.C k56 w A1 es.length es) (hc1 : es.length ≤ c1) :
    Calls Try.prog 29 #[.agg #[.int .i64 n, .slice A l.length c], .slice A1 es.length c1] w fun e w' => ∃ v0_ : Value, e = .returned (v0_) ∧ Kd.S k48 48 w' w.heap.size (fun _ => True) v0_ (run n l es) ∧ Below w.heap.size w w' := by
  have HR := Aside0.mk hr
  have HC := Aside0.mk hc
  have HR1 := Aside0.mk hr1
  have HC1 := Aside0.mk hc1
  clear hr hc hr1 hc1
  by_cases hl : layoutOk n l = 0
  · by_cases he : es.length ≤ 2000
    · skip
      have b0 : (layoutOk n l != 0) = false := bne_eq_false_iff_eq.mpr hl
      have b1 : decide ((es.length : Int) > 2000) = false := decide_eq_false (by omega)
      have HL := Aside0.mk hl
      have HE := Aside0.mk he
      have HN := Aside0.mk (lay_n hl)
      clear hl he
      go_enter Try.func29, Try.ntmps29
      go_upto_region 5 with (first | ((with_reducible refine gate_dst (N := 2) rfl ?_); refine box_event ?hg (N := 2) ?hd (cs := #[.int .i64 n, .slice A l.length c]) (t := 30) ?hr ?_; (case hd => rfl); (case hg => rfl); (case hr => first | (go_simp; done) | (go_simp; rfl)); intro gl el wl kl bl; have hcz0 := (blk_cell kl 0).trans (show _ = some (Value.int .i64 n) from rfl); have hcz1 := (blk_cell kl 1).trans (show _ = some (Value.slice A l.length c) from rfl); have KL := Aside0.mk kl; have BL := Aside0.mk bl; have GL := Aside0.mk (show w.heap.size ≤ gl by rw [el]; exact Nat.le_refl _); clear kl bl el) | (go_at_call 25; refine (lay_is (Kd.C_below HR.out BL.out) HC.out).mono ?_; rintro e w1 ⟨rfl, hb⟩; have KL := Aside0.mk (blk_below KL.out hb); have BL := Aside0.mk (below_step BL.out hb); clear hb; have hcy0 := (blk_cell KL.out 0).trans (show _ = some (Value.int .i64 n) from rfl); have hcy1 := (blk_cell KL.out 1).trans (show _ = some (Value.slice A l.length c) from rfl)) | (go_at_call 44; refine (begin_is (Kd.C_below HR.out BL.out) HC.out HL.out).mono ?_; rintro e w2 ⟨v1, v2, rfl, r1, r2, hb⟩; obtain ⟨a1, d1, rfl⟩ := Kd.R_slice r1; obtain ⟨a2, d2, rfl⟩ := Kd.R_slice r2; have R1 := Aside0.mk (Kd.R_lower r1 BL.out.size); have R2 := Aside0.mk (Kd.R_lower r2 BL.out.size); have KL := Aside0.mk (blk_below KL.out hb); have BL := Aside0.mk (below_step BL.out hb); clear hb r1 r2) | ((with_reducible refine gate_dst (N := 6) rfl ?_); refine box_event ?hg (N := 6) ?hd (cs := #[.bool false, .slice none 0 0, .slice none 0 0]) (t := 46) ?hr ?_; (case hd => rfl); (case hg => rfl); (case hr => first | (go_simp; done) | (go_simp; rfl)); intro gs es_ ws ks bs; have KS := Aside0.mk ks; have ES := Aside0.mk es_; have BS := Aside0.mk bs; have zs0 := blk_frozen ks 0; have zs1 := blk_frozen ks 1; have zs2 := blk_frozen ks 2; have ks0 := (blk_cell ks 0).trans (show _ = some (Value.bool false) from rfl); have ks1 := (blk_cell ks 1).trans (show _ = some (Value.slice none 0 0) from rfl); have ks2 := (blk_cell ks 2).trans (show _ = some (Value.slice none 0 0) from rfl); clear ks es_ bs))
      clear hcz0 hcz1 hcy0 hcy1
      have BX := Aside0.mk (below_set (j := 2) (v := .slice a2 (st0 n l).f2.length d2) (below_set (j := 1) (v := .slice a1 (st0 n l).f1.length d1) (below_set (j := 0) (v := .bool true) BS.out (Nat.le_of_eq ES.out.symm)) (Nat.le_of_eq ES.out.symm)) (Nat.le_of_eq ES.out.symm))
      have KX := Aside0.mk (blk_put (blk_put (blk_put KS.out 0 (.bool true) rfl) 1 (.slice a1 (st0 n l).f1.length d1) rfl) 2 (.slice a2 (st0 n l).f2.length d2) rfl)
      have ST := Aside0.mk (show RnSt w (((ws.setCell ⟨gs, 0, none⟩ (.bool true)).setCell ⟨gs, 1, none⟩ (.slice a1 (st0 n l).f1.length d1)).setCell ⟨gs, 2, none⟩ (.slice a2 (st0 n l).f2.length d2)) gl gs [.int .i64 n, .slice A l.length c] [.bool true, .slice a1 (st0 n l).f1.length d1, .slice a2 (st0 n l).f2.length d2] (.slice a1 (st0 n l).f1.length d1) (.slice a2 (st0 n l).f2.length d2) (st0 n l) (.slice none 0 0) [] from ⟨blk_below KL.out BX.out, KX.out, Kd.V_below (Kd.R_V (Kd.R_tight rfl R1.out)) BX.out, Kd.V_below (Kd.R_V (Kd.R_tight rfl R2.out)) BX.out, Kd.S_nil _ _ _ _ _, below_step BL.out BX.out, GL.out, by rw [ES.out]; exact BL.out.size⟩)
      clear KL BL R1 R2 KS ES BS zs0 zs1 zs2 ks0 ks1 ks2 BX KX
      generalize (((ws.setCell ⟨gs, 0, none⟩ (.bool true)).setCell ⟨gs, 1, none⟩ (.slice a1 (st0 n l).f1.length d1)).setCell ⟨gs, 2, none⟩ (.slice a2 (st0 n l).f2.length d2)) = wa at ST ⊢
      go_wp2_with fail
      go_loopg [5, 22] es.length (fun kq vo v22 w' => ∃ j : Nat, v22 = .int .i64 j ∧ Aside0 (j + kq = es.length) ∧ ∃ u1 u2 : Value, Aside0 (RnSt w w' gl gs [.int .i64 n, .slice A l.length c] [.bool true, u1, u2] u1 u2 (stAt n l es j) vo (runTo n l es j)))
      case atStart => exact ⟨0, rfl, ⟨by omega⟩, _, _, ⟨by rw [stAt_zero]; exact ST.out⟩⟩
      case round =>
        clear ST
        obtain ⟨j, rfl, HJ, u1, u2, ST⟩ := hrel
        by_cases hlt : j < es.length
        · cases gk with
          | zero => exact absurd HJ.out (by omega)
          | succ gk =>
            have hlt' : decide ((j : Int) < (es.length : Int)) = true := decide_eq_true (by omega)
            have q0 : (0 : Int) ≤ (j : Int) := by omega
            have q1 : (j : Int) < (es.length : Int) := by omega
            obtain ⟨a1, d1, e1⟩ := Kd.V_slice ST.out.V1
            obtain ⟨a2, d2, e2⟩ := Kd.V_slice ST.out.V2
            subst e1 e2
            obtain ⟨ad, e, x0, x1, x2⟩ := at_T56 HR1.out (j : Int) q0 q1
            subst e
            replace x0 := pw_cell_below ST.out.hB x0
            replace x1 := pw_cell_below ST.out.hB x1
            replace x2 := pw_cell_below ST.out.hB x2
            rw [Int.toNat_natCast] at x0 x1 x2
            have HSU := Aside0.mk (stAt_succ n l es j hlt)
            have HRU := Aside0.mk (runTo_succ n l es j)
            have HLT := Aside0.mk (stAt_len n l es j)
            have HSO := Aside0.mk (stAt_ok HL.out es j)
            generalize hx : rd_T56 es (j : Int) = x at x0 x1 x2 HSU HRU
            clear hx
            generalize hst : stAt n l es j = s at ST HSU HRU HLT HSO ⊢
            clear hst
            go_upto_region 8 with ((with_reducible refine gate_dst (N := 8) rfl ?_); refine box_event ?hg (N := 8) ?hd (cs := #[.int .i64 0, .int .i64 0, .int .i64 0]) (t := 56) ?hr ?_; (case hd => rfl); (case hg => rfl); (case hr => first | (go_simp; done) | (go_simp; rfl)); intro ge ee we ke be; have KE := Aside0.mk ke; have EE := Aside0.mk ee; have BE := Aside0.mk be; have z0 := blk_frozen ke 0; have z1 := blk_frozen ke 1; have z2 := blk_frozen ke 2; have c0_ := (blk_cell ke 0).trans (show _ = some (Value.int .i64 0) from rfl); have c1_ := (blk_cell ke 1).trans (show _ = some (Value.int .i64 0) from rfl); have c2_ := (blk_cell ke 2).trans (show _ = some (Value.int .i64 0) from rfl); clear ke ee be)
            have KX := Aside0.mk (blk_put (blk_put (blk_put KE.out 0 (.int .i64 x.f0) rfl) 1 (.int .i64 x.f1) rfl) 2 (.int .i64 x.f2) rfl)
            have BX := Aside0.mk (below_set (j := 2) (v := .int .i64 x.f2) (below_set (j := 1) (v := .int .i64 x.f1) (below_set (j := 0) (v := .int .i64 x.f0) BE.out (Nat.le_of_eq EE.out.symm)) (Nat.le_of_eq EE.out.symm)) (Nat.le_of_eq EE.out.symm))
            clear KE BE EE z0 z1 z2 c0_ c1_ c2_ x0 x1 x2
            generalize (((we.setCell ⟨ge, 0, none⟩ (.int .i64 x.f0)).setCell ⟨ge, 1, none⟩ (.int .i64 x.f1)).setCell ⟨ge, 2, none⟩ (.int .i64 x.f2)) = w8 at KX BX ⊢
            go_cut [9] from 24 to 33 (fun v9 wx => ∃ (gd : Nat) (b2 b3 : Option Addr) (f2 f3 : Nat), v9 = .pointer (some ⟨gd, 0, none⟩) ∧ Aside0 (MdSt w wr wx gl gs gd [.int .i64 n, .slice A l.length c] [.bool true, .slice a1 s.f1.length d1, .slice a2 s.f2.length d2] [.int .i64 1, .bool true, (.slice b2 s.f1.length f2), (.slice b3 s.f2.length f3)] (.slice b2 s.f1.length f2) (.slice b3 s.f2.length f3) s.f1 s.f2 u5 (runTo n l es j) ∧ Below wr.heap.size wr wx ∧ wx.heap[ge]? = some (.cells #[.int .i64 x.f0, .int .i64 x.f1, .int .i64 x.f2] 56 (0, 0))))
            case first =>
              have f1 : impl_Section.f s.f1 = some s.f1 := by unfold impl_Section.f; rw [if_pos (by rw [HLT.out.1]; have := HN.out; omega)]
              have f2 : slices_Clone_bool_bool.f s.f2 = some s.f2 := by unfold slices_Clone_bool_bool.f; rw [if_pos (by rw [HLT.out.2.1]; have := HN.out; omega)]
              have F1 := Aside0.mk f1
              have F2 := Aside0.mk f2
              clear f1 f2
              have e1 : w8.cell? ⟨gs, 1, none⟩ = some (.slice a1 s.f1.length d1) := (blk_cell (blk_below ST.out.hs BX.out) 1).trans rfl
              have e2 : w8.cell? ⟨gs, 2, none⟩ = some (.slice a2 s.f2.length d2) := (blk_cell (blk_below ST.out.hs BX.out) 2).trans rfl
              have bx := Aside0.mk BX.out
              have ke := Aside0.mk KX.out
              have ksb := Aside0.mk (blk_below ST.out.hs BX.out)
              have KD : True := trivial
              have ng : True := trivial
              go_region_held3 (fun w' => w'.cell? ⟨gs, 1, none⟩ = some (.slice a1 s.f1.length d1) ∧ w'.cell? ⟨gs, 2, none⟩ = some (.slice a2 s.f2.length d2))
                (((with_reducible refine ⟨(blk_cell (cs := #[.bool true, (.slice a1 s.f1.length d1), (.slice a2 s.f2.length d2)]) (t := 46) ?_ 1).trans ?_, (blk_cell (cs := #[.bool true, (.slice a1 s.f1.length d1), (.slice a2 s.f2.length d2)]) (t := 46) ?_ 2).trans ?_⟩) <;> (first | with_reducible exact ksb.out | (with_reducible rfl) | (refine blk_below ksb.out ?_; (repeat (first | (with_reducible exact Below.refl _ _) | (with_reducible apply below_drew1) | (with_reducible apply below_alloc))); done) | (with_reducible refine blk_far ?_ (Ne.symm ng) _; with_reducible refine blk_far ?_ (Ne.symm ng) _; with_reducible refine blk_far ?_ (Ne.symm ng) _; with_reducible refine blk_far ?_ (Ne.symm ng) _; with_reducible exact ksb.out) | rfl)))
                (first | (go_at_call 94; refine (impl_Section.calls a1 d1 s.f1 s.f1 _ (Kd.V_reads' (Kd.V_below ST.out.V1 (by repeat (first | (with_reducible exact bx.out) | (with_reducible apply below_drew1) | (with_reducible apply below_alloc) | fail)))).2.2 (Kd.V_reads' ST.out.V1).2.1 F1.out).mono ?_; rintro e w' ⟨v1, rfl, ho1, hb⟩; obtain ⟨v1_a, v1_c, rfl⟩ := Kd.R_slice ho1; have HO1 := Aside0.mk (Kd.R_lower (base' := wr.heap.size) ho1 (show Below wr.heap.size wr _ from (by repeat (first | (with_reducible exact bx.out) | (with_reducible apply below_drew1) | (with_reducible apply below_alloc) | fail))).size); (first | (have HO2 := Aside0.mk (R_up HO2.out (by first | with_reducible exact hb | exact below_step (by repeat (first | (with_reducible exact Below.refl _ _) | (with_reducible apply below_drew1) | (with_reducible apply below_alloc) | fail)) hb | fail))) | skip); (first | (have KD := Aside0.mk (blk_below KD.out hb)) | (have KD := Aside0.mk (by with_reducible exact alloc_blk hb); have GD := Aside0.mk bx.out.size) | (have KD := Aside0.mk (by with_reducible exact alloc_blk_drew hb); have GD := Aside0.mk bx.out.size) | skip); (try (have zd0 := blk_frozen KD.out 0; have zd1 := blk_frozen KD.out 1; have zd2 := blk_frozen KD.out 2; have zd3 := blk_frozen KD.out 3; have kd0 := (blk_cell KD.out 0).trans (show _ = some (Value.int .i64 0) from rfl); have kd1 := (blk_cell KD.out 1).trans (show _ = some (Value.bool false) from rfl); have kd2 := (blk_cell KD.out 2).trans (show _ = some (Value.slice none 0 0) from rfl); have kd3 := (blk_cell KD.out 3).trans (show _ = some (Value.slice none 0 0) from rfl))); have ke := Aside0.mk (blk_below ke.out (by first | with_reducible exact hb | exact below_step (by repeat (first | (with_reducible exact Below.refl _ _) | (with_reducible apply below_drew1) | (with_reducible apply below_alloc) | fail)) hb | fail)); have ksb := Aside0.mk (blk_below ksb.out (by first | with_reducible exact hb | exact below_step (by repeat (first | (with_reducible exact Below.refl _ _) | (with_reducible apply below_drew1) | (with_reducible apply below_alloc) | fail)) hb | fail)); (try (have ng := blk_ne KD.out ksb.out (by decide))); have bx := Aside0.mk (below_step bx.out (by first | with_reducible exact hb | exact below_step (by repeat (first | (with_reducible exact Below.refl _ _) | (with_reducible apply below_drew1) | (with_reducible apply below_alloc) | fail)) hb | fail)); clear hb ho1) | (go_at_call 95; refine (slices_Clone_bool_bool.calls a2 d2 s.f2 s.f2 _ (Kd.V_reads' (Kd.V_below ST.out.V2 (by repeat (first | (with_reducible exact bx.out) | (with_reducible apply below_drew1) | (with_reducible apply below_alloc) | fail)))).2.2 (Kd.V_reads' ST.out.V2).2.1 F2.out).mono ?_; rintro e w' ⟨v2, rfl, ho2, hb⟩; obtain ⟨v2_a, v2_c, rfl⟩ := Kd.R_slice ho2; have HO2 := Aside0.mk (Kd.R_lower (base' := wr.heap.size) ho2 (show Below wr.heap.size wr _ from (by repeat (first | (with_reducible exact bx.out) | (with_reducible apply below_drew1) | (with_reducible apply below_alloc) | fail))).size); (first | (have HO1 := Aside0.mk (R_up HO1.out (by first | with_reducible exact hb | exact below_step (by repeat (first | (with_reducible exact Below.refl _ _) | (with_reducible apply below_drew1) | (with_reducible apply below_alloc) | fail)) hb | fail))) | skip); (first | (have KD := Aside0.mk (blk_below KD.out hb)) | (have KD := Aside0.mk (by with_reducible exact alloc_blk hb); have GD := Aside0.mk bx.out.size) | (have KD := Aside0.mk (by with_reducible exact alloc_blk_drew hb); have GD := Aside0.mk bx.out.size) | skip); (try (have zd0 := blk_frozen KD.out 0; have zd1 := blk_frozen KD.out 1; have zd2 := blk_frozen KD.out 2; have zd3 := blk_frozen KD.out 3; have kd0 := (blk_cell KD.out 0).trans (show _ = some (Value.int .i64 0) from rfl); have kd1 := (blk_cell KD.out 1).trans (show _ = some (Value.bool false) from rfl); have kd2 := (blk_cell KD.out 2).trans (show _ = some (Value.slice none 0 0) from rfl); have kd3 := (blk_cell KD.out 3).trans (show _ = some (Value.slice none 0 0) from rfl))); have ke := Aside0.mk (blk_below ke.out (by first | with_reducible exact hb | exact below_step (by repeat (first | (with_reducible exact Below.refl _ _) | (with_reducible apply below_drew1) | (with_reducible apply below_alloc) | fail)) hb | fail)); have ksb := Aside0.mk (blk_below ksb.out (by first | with_reducible exact hb | exact below_step (by repeat (first | (with_reducible exact Below.refl _ _) | (with_reducible apply below_drew1) | (with_reducible apply below_alloc) | fail)) hb | fail)); (try (have ng := blk_ne KD.out ksb.out (by decide))); have bx := Aside0.mk (below_step bx.out (by first | with_reducible exact hb | exact below_step (by repeat (first | (with_reducible exact Below.refl _ _) | (with_reducible apply below_drew1) | (with_reducible apply below_alloc) | fail)) hb | fail)); clear hb ho2))
              all_goals (go_wp2_with fail; go_meet)
              all_goals first | exact ⟨_, _, _, _, _, rfl, ⟨(ST.out.midA bx.out HO1.out HO2.out).1, (ST.out.midA bx.out HO1.out HO2.out).2, blk_below ke.out (below_alloc (Below.refl _ _) _)⟩⟩ | exact ⟨_, _, _, _, _, rfl, ⟨(ST.out.midB bx.out KD.out GD.out HO1.out HO2.out).1, (ST.out.midB bx.out KD.out GD.out HO1.out HO2.out).2, blk_far (blk_far (blk_far (blk_far ke.out (blk_ne ke.out KD.out (by decide)) _) (blk_ne ke.out KD.out (by decide)) _) (blk_ne ke.out KD.out (by decide)) _) (blk_ne ke.out KD.out (by decide)) _⟩⟩
            case rest =>
              obtain ⟨gd, b2, b3, f2, f3, rfl, HM⟩ := hcut
              clear KX BX
              have kl0 : wc.cell? ⟨gl, 0, none⟩ = some (.int .i64 n) := (blk_cell HM.out.1.hl 0).trans rfl
              have kl1 : wc.cell? ⟨gl, 1, none⟩ = some (.slice A l.length c) := (blk_cell HM.out.1.hl 1).trans rfl
              have ke0 : wc.cell? ⟨ge, 0, none⟩ = some (.int .i64 x.f0) := (blk_cell HM.out.2.2 0).trans rfl
              have ke1 : wc.cell? ⟨ge, 1, none⟩ = some (.int .i64 x.f1) := (blk_cell HM.out.2.2 1).trans rfl
              have ke2 : wc.cell? ⟨ge, 2, none⟩ = some (.int .i64 x.f2) := (blk_cell HM.out.2.2 2).trans rfl
              have ks0 : wc.cell? ⟨gs, 0, none⟩ = some (.bool true) := (blk_cell HM.out.1.hs 0).trans rfl
              have ks1 : wc.cell? ⟨gs, 1, none⟩ = some (.slice a1 s.f1.length d1) := (blk_cell HM.out.1.hs 1).trans rfl
              have ks2 : wc.cell? ⟨gs, 2, none⟩ = some (.slice a2 s.f2.length d2) := (blk_cell HM.out.1.hs 2).trans rfl
              cases hok : eventOk n l x.f0 x.f1 x.f2 with
              | false =>
                have HO := Aside0.mk hok
                clear hok
                have HST := Aside0.mk (show runStep n l s x = ⟨1, ⟨true, s.f1, s.f2⟩⟩ by unfold runStep; rw [HO.out]; rfl)
                go_upto_region 11 with (go_at_call 36; refine (ev_at x.f0 x.f1 x.f2 HO.out (Kd.C_below HR.out HM.out.1.hB) HC.out).mono ?_; rintro e wd ⟨rfl, hb⟩; have HM2 := Aside0.mk (And.intro (HM.out.1.up hb) (And.intro (below_step HM.out.2.1 hb) (blk_below HM.out.2.2 hb))); clear hb; have kd0 : wd.cell? ⟨gd, 0, none⟩ = some (.int .i64 1) := (blk_cell HM2.out.1.hd 0).trans rfl; have kd1 : wd.cell? ⟨gd, 1, none⟩ = some (.bool true) := (blk_cell HM2.out.1.hd 1).trans rfl; have kd2 : wd.cell? ⟨gd, 2, none⟩ = some (.slice b2 s.f1.length f2) := (blk_cell HM2.out.1.hd 2).trans rfl; have kd3 : wd.cell? ⟨gd, 3, none⟩ = some (.slice b3 s.f2.length f3) := (blk_cell HM2.out.1.hd 3).trans rfl)
                clear kl0 kl1 ke0 ke1 ke2 ks0 ks1 ks2
                go_wp2_with (at_builtin; refine Kd.S_append k48 (w0 := w) w.heap.size rfl (.tmp 41) (.tmp 43) 38 48 (.agg #[.int .i64 0, .bool false, .slice none 0 0, .slice none 0 0]) 64 rfl Try.underlying38 info48 rfl (by decide) (by decide) u5 (runTo n l es j) ⟨1, ⟨true, s.f1, s.f2⟩⟩ [.int .i64 (1), .bool true, (.slice b2 s.f1.length f2), (.slice b3 s.f2.length f3)] (fun _ => True) (okp (.slice b2 s.f1.length f2) (.slice b3 s.f2.length f3)) rfl rfl (HM2.out.1.elem (1) true) (fun k hk => ⟨trivial, HM2.out.1.okp_ne hk⟩) (fun _ _ => trivial) HM2.out.1.rest HM2.out.1.hB HM2.out.1.hB.size (by rw [runTo_length]; have := HE.out; omega) ?_; intro vn wn hsn hbn hgn _; have HSN := Aside0.mk hsn; have HBN := Aside0.mk hbn; have HGN := Aside0.mk hgn; have KD := Aside0.mk (HM2.out.1.at_ hgn).1; have KS := Aside0.mk (HM2.out.1.at_ hgn).2; clear hsn hbn hgn; have kd0 : wn.cell? ⟨gd, 0, none⟩ = some (.int .i64 (1)) := (blk_cell KD.out 0).trans rfl; have kd1 : wn.cell? ⟨gd, 1, none⟩ = some (.bool true) := (blk_cell KD.out 1).trans rfl; have kd2 : wn.cell? ⟨gd, 2, none⟩ = some (.slice b2 s.f1.length f2) := (blk_cell KD.out 2).trans rfl; have kd3 : wn.cell? ⟨gd, 3, none⟩ = some (.slice b3 s.f2.length f3) := (blk_cell KD.out 3).trans rfl; have kt0 : wn.cell? ⟨gs, 0, none⟩ = some (.bool true) := (blk_cell KS.out 0).trans rfl; have kt1 : wn.cell? ⟨gs, 1, none⟩ = some (.slice a1 s.f1.length d1) := (blk_cell KS.out 1).trans rfl; have kt2 : wn.cell? ⟨gs, 2, none⟩ = some (.slice a2 s.f2.length d2) := (blk_cell KS.out 2).trans rfl; have zt0 := blk_frozen KS.out 0; have zt1 := blk_frozen KS.out 1; have zt2 := blk_frozen KS.out 2)
                have SN := Aside0.mk (HM2.out.1.fin HSN.out HBN.out HGN.out)
                go_roundg gk
                case measure => omega
                case rel => exact ⟨j + 1, congrArg (Value.int .i64) (wrap_succ (by have := HE.out; omega)), ⟨by have := HJ.out; omega⟩, _, _, ⟨by rw [HSU.out, HRU.out, HST.out]; exact SN.out⟩⟩
              | true =>
                have HO := Aside0.mk hok
                clear hok
                have HST := Aside0.mk (show runStep n l s x = ⟨doCode l s.f1 s.f2 x.f0 x.f1, ⟨true, doSecs l s.f1 s.f2 x.f0 x.f1 x.f2, doDead l s.f1 s.f2 x.f0 x.f1⟩⟩ by unfold runStep; rw [if_pos HO.out])
                go_upto_region 11 with (first | (go_at_call 36; refine (ev_at x.f0 x.f1 x.f2 HO.out (Kd.C_below HR.out HM.out.1.hB) HC.out).mono ?_; rintro e wd ⟨rfl, hb⟩; have HM2 := Aside0.mk (And.intro (HM.out.1.up hb) (And.intro (below_step HM.out.2.1 hb) (blk_below HM.out.2.2 hb))); clear hb; have kl0 : wd.cell? ⟨gl, 0, none⟩ = some (.int .i64 n) := (blk_cell HM2.out.1.hl 0).trans rfl; have kl1 : wd.cell? ⟨gl, 1, none⟩ = some (.slice A l.length c) := (blk_cell HM2.out.1.hl 1).trans rfl; have ke0 : wd.cell? ⟨ge, 0, none⟩ = some (.int .i64 x.f0) := (blk_cell HM2.out.2.2 0).trans rfl; have ke1 : wd.cell? ⟨ge, 1, none⟩ = some (.int .i64 x.f1) := (blk_cell HM2.out.2.2 1).trans rfl; have ke2 : wd.cell? ⟨ge, 2, none⟩ = some (.int .i64 x.f2) := (blk_cell HM2.out.2.2 2).trans rfl; have ks0 : wd.cell? ⟨gs, 0, none⟩ = some (.bool true) := (blk_cell HM2.out.1.hs 0).trans rfl; have ks1 : wd.cell? ⟨gs, 1, none⟩ = some (.slice a1 s.f1.length d1) := (blk_cell HM2.out.1.hs 1).trans rfl; have ks2 : wd.cell? ⟨gs, 2, none⟩ = some (.slice a2 s.f2.length d2) := (blk_cell HM2.out.1.hs 2).trans rfl) | (go_at_call 96; refine (do_is n A c l true a1 d1 s.f1 a2 d2 s.f2 x.f0 x.f1 x.f2 _ (Kd.C_below HR.out HM2.out.1.hB) HC.out (Kd.V_reads' (Kd.V_below ST.out.V1 HM2.out.2.1)).2.2 (Kd.V_reads' ST.out.V1).2.1 (Kd.V_reads' (Kd.V_below ST.out.V2 HM2.out.2.1)).2.2 (Kd.V_reads' ST.out.V2).2.1 HL.out (by rw [HLT.out.1]; have := HN.out; omega) HLT.out.2.1 HO.out).mono ?_; rintro e wf ⟨v2, v3, rfl, r1, r2, hb⟩; obtain ⟨b4, f4, rfl⟩ := Kd.R_slice r1; obtain ⟨b5, f5, rfl⟩ := Kd.R_slice r2; have KD := Aside0.mk (blk_below HM2.out.1.hd hb); have NR1 := Aside0.mk (Kd.R_lower r1 HM2.out.2.1.size); have NR2 := Aside0.mk (Kd.R_lower r2 HM2.out.2.1.size); have BF := Aside0.mk (below_step HM2.out.2.1 hb); clear r1 r2 hb; have kd0 : wf.cell? ⟨gd, 0, none⟩ = some (.int .i64 1) := (blk_cell KD.out 0).trans rfl; have kd1 : wf.cell? ⟨gd, 1, none⟩ = some (.bool true) := (blk_cell KD.out 1).trans rfl; have kd2 : wf.cell? ⟨gd, 2, none⟩ = some (.slice b2 s.f1.length f2) := (blk_cell KD.out 2).trans rfl; have kd3 : wf.cell? ⟨gd, 3, none⟩ = some (.slice b3 s.f2.length f3) := (blk_cell KD.out 3).trans rfl; have zd0 := blk_frozen KD.out 0; have zd1 := blk_frozen KD.out 1; have zd2 := blk_frozen KD.out 2; have zd3 := blk_frozen KD.out 3))
                clear kl0 kl1 ke0 ke1 ke2 ks0 ks1 ks2 kd0 kd1 kd2 kd3 zd0 zd1 zd2 zd3
                have HM3 := Aside0.mk (ST.out.midB (code := (doCode l s.f1 s.f2 x.f0 x.f1)) (b := true) BF.out KD.out HM2.out.1.gde NR1.out NR2.out)
                clear HM HM2 KD NR1 NR2 BF
                generalize ((((wf.setCell ⟨gd, 0, none⟩ (.int .i64 (doCode l s.f1 s.f2 x.f0 x.f1))).setCell ⟨gd, 1, none⟩ (.bool true)).setCell ⟨gd, 2, none⟩ (.slice b4 (doSecs l s.f1 s.f2 x.f0 x.f1 x.f2).length f4)).setCell ⟨gd, 3, none⟩ (.slice b5 (doDead l s.f1 s.f2 x.f0 x.f1).length f5)) = wg at HM3 ⊢
                have kd0 : wg.cell? ⟨gd, 0, none⟩ = some (.int .i64 (doCode l s.f1 s.f2 x.f0 x.f1)) := (blk_cell HM3.out.1.hd 0).trans rfl
                have kd1 : wg.cell? ⟨gd, 1, none⟩ = some (.bool true) := (blk_cell HM3.out.1.hd 1).trans rfl
                have kd2 : wg.cell? ⟨gd, 2, none⟩ = some (.slice b4 (doSecs l s.f1 s.f2 x.f0 x.f1 x.f2).length f4) := (blk_cell HM3.out.1.hd 2).trans rfl
                have kd3 : wg.cell? ⟨gd, 3, none⟩ = some (.slice b5 (doDead l s.f1 s.f2 x.f0 x.f1).length f5) := (blk_cell HM3.out.1.hd 3).trans rfl
                go_wp2_with (at_builtin; refine Kd.S_append k48 (w0 := w) w.heap.size rfl (.tmp 41) (.tmp 43) 38 48 (.agg #[.int .i64 0, .bool false, .slice none 0 0, .slice none 0 0]) 64 rfl Try.underlying38 info48 rfl (by decide) (by decide) u5 (runTo n l es j) ⟨(doCode l s.f1 s.f2 x.f0 x.f1), ⟨true, doSecs l s.f1 s.f2 x.f0 x.f1 x.f2, doDead l s.f1 s.f2 x.f0 x.f1⟩⟩ [.int .i64 ((doCode l s.f1 s.f2 x.f0 x.f1)), .bool true, (.slice b4 (doSecs l s.f1 s.f2 x.f0 x.f1 x.f2).length f4), (.slice b5 (doDead l s.f1 s.f2 x.f0 x.f1).length f5)] (fun _ => True) (okp (.slice b4 (doSecs l s.f1 s.f2 x.f0 x.f1 x.f2).length f4) (.slice b5 (doDead l s.f1 s.f2 x.f0 x.f1).length f5)) rfl rfl (HM3.out.1.elem ((doCode l s.f1 s.f2 x.f0 x.f1)) true) (fun k hk => ⟨trivial, HM3.out.1.okp_ne hk⟩) (fun _ _ => trivial) HM3.out.1.rest HM3.out.1.hB HM3.out.1.hB.size (by rw [runTo_length]; have := HE.out; omega) ?_; intro vn wn hsn hbn hgn _; have HSN := Aside0.mk hsn; have HBN := Aside0.mk hbn; have HGN := Aside0.mk hgn; have KD := Aside0.mk (HM3.out.1.at_ hgn).1; have KS := Aside0.mk (HM3.out.1.at_ hgn).2; clear hsn hbn hgn; have kd0 : wn.cell? ⟨gd, 0, none⟩ = some (.int .i64 ((doCode l s.f1 s.f2 x.f0 x.f1))) := (blk_cell KD.out 0).trans rfl; have kd1 : wn.cell? ⟨gd, 1, none⟩ = some (.bool true) := (blk_cell KD.out 1).trans rfl; have kd2 : wn.cell? ⟨gd, 2, none⟩ = some (.slice b4 (doSecs l s.f1 s.f2 x.f0 x.f1 x.f2).length f4) := (blk_cell KD.out 2).trans rfl; have kd3 : wn.cell? ⟨gd, 3, none⟩ = some (.slice b5 (doDead l s.f1 s.f2 x.f0 x.f1).length f5) := (blk_cell KD.out 3).trans rfl; have kt0 : wn.cell? ⟨gs, 0, none⟩ = some (.bool true) := (blk_cell KS.out 0).trans rfl; have kt1 : wn.cell? ⟨gs, 1, none⟩ = some (.slice a1 s.f1.length d1) := (blk_cell KS.out 1).trans rfl; have kt2 : wn.cell? ⟨gs, 2, none⟩ = some (.slice a2 s.f2.length d2) := (blk_cell KS.out 2).trans rfl; have zt0 := blk_frozen KS.out 0; have zt1 := blk_frozen KS.out 1; have zt2 := blk_frozen KS.out 2)
                have SN := Aside0.mk (HM3.out.1.fin HSN.out HBN.out HGN.out)
                go_roundg gk
                case measure => omega
                case rel => exact ⟨j + 1, congrArg (Value.int .i64) (wrap_succ (by have := HE.out; omega)), ⟨by have := HJ.out; omega⟩, _, _, ⟨by rw [HSU.out, HRU.out, HST.out]; exact SN.out⟩⟩
        · have hlt' : decide ((j : Int) < (es.length : Int)) = false := decide_eq_false (by omega)
          have hj : j = es.length := by have := HJ.out; omega
          have HRN := Aside0.mk (show runTo n l es j = run n l es by rw [run, if_pos ⟨HL.out, HE.out⟩, hj])
          clear hj
          go_wp2_with fail
          go_ret
          exact ⟨_, rfl, HRN.out ▸ ST.out.HS, ST.out.hB⟩
    · skip
      have b0 : (layoutOk n l != 0) = false := bne_eq_false_iff_eq.mpr hl
      have b1 : decide ((es.length : Int) > 2000) = true := decide_eq_true (by omega)
      have HV := Aside0.mk (show ([] : List S48) = run n l es by rw [run, if_neg (fun h => he h.2)])
      clear hl he
      go_enter Try.func29, Try.ntmps29
      go_wp2_with (first | ((with_reducible refine gate_dst (N := 2) rfl ?_); refine box_event ?hg (N := 2) ?hd (cs := #[.int .i64 n, .slice A l.length c]) (t := 30) ?hr ?_; (case hd => rfl); (case hg => rfl); (case hr => first | (go_simp; done) | (go_simp; rfl)); intro gl el wl kl bl; have hcz0 := (blk_cell kl 0).trans (show _ = some (Value.int .i64 n) from rfl); have hcz1 := (blk_cell kl 1).trans (show _ = some (Value.slice A l.length c) from rfl); have KL := Aside0.mk kl; have BL := Aside0.mk bl; have GL := Aside0.mk (show w.heap.size ≤ gl by rw [el]; exact Nat.le_refl _); clear kl bl el) | (go_at_call 25; refine (lay_is (Kd.C_below HR.out BL.out) HC.out).mono ?_; rintro e w1 ⟨rfl, hb⟩; have KL := Aside0.mk (blk_below KL.out hb); have BL := Aside0.mk (below_step BL.out hb); clear hb; have hcy0 := (blk_cell KL.out 0).trans (show _ = some (Value.int .i64 n) from rfl); have hcy1 := (blk_cell KL.out 1).trans (show _ = some (Value.slice A l.length c) from rfl)))
      go_ret
      exact ⟨_, rfl, HV.out ▸ Kd.S_nil _ _ _ _ _, BL.out⟩
  · skip
    have b0 : (layoutOk n l != 0) = true := bne_iff_ne.mpr hl
    have HV := Aside0.mk (show ([] : List S48) = run n l es by rw [run, if_neg (fun h => hl h.1)])
    clear hl
    go_enter Try.func29, Try.ntmps29
    go_wp2_with (first | ((with_reducible refine gate_dst (N := 2) rfl ?_); refine box_event ?hg (N := 2) ?hd (cs := #[.int .i64 n, .slice A l.length c]) (t := 30) ?hr ?_; (case hd => rfl); (case hg => rfl); (case hr => first | (go_simp; done) | (go_simp; rfl)); intro gl el wl kl bl; have hcz0 := (blk_cell kl 0).trans (show _ = some (Value.int .i64 n) from rfl); have hcz1 := (blk_cell kl 1).trans (show _ = some (Value.slice A l.length c) from rfl); have KL := Aside0.mk kl; have BL := Aside0.mk bl; have GL := Aside0.mk (show w.heap.size ≤ gl by rw [el]; exact Nat.le_refl _); clear kl bl el) | (go_at_call 25; refine (lay_is (Kd.C_below HR.out BL.out) HC.out).mono ?_; rintro e w1 ⟨rfl, hb⟩; have KL := Aside0.mk (blk_below KL.out hb); have BL := Aside0.mk (below_step BL.out hb); clear hb; have hcy0 := (blk_cell KL.out 0).trans (show _ = some (Value.int .i64 n) from rfl); have hcy1 := (blk_cell KL.out 1).trans (show _ = some (Value.slice A l.length c) from rfl)))
    go_ret
    exact ⟨_, rfl, HV.out ▸ Kd.S_nil _ _ _ _ _, BL.out⟩
end Go.Proofs.Ytpdnabhpkdchjaa.P
