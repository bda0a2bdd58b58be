/- The statement FnExactGaps holds of the given program, for every argument; there are no conditions. (Part 5 of 7.) -/
import Derived.Test.YtpdnabhpkdchjaaBFnExactGaps4
namespace Go.Proofs.Ytpdnabhpkdchjaa.P
open Go.RowKit Go.Proofs.YtpdnabhpkdchjaaW.PrintWords Go.Proofs.YtpdnabhpkdchjaaW.PrintLast Go.Proofs.YtpdnabhpkdchjaaW.PrintMore
attribute [local go_sem] max2_int min2_int max_two min_two max_three min_three max_four min_four
set_option linter.unusedVariables false
set_option linter.unusedSimpArgs false
mutual
def spec_Truth.j0:Nat→List (S56)→Bool→Int→List (S88)→Option ((List (List Int)))
 | 0,_,_,_,_=>none
 | k+1,x1,x18,x569000,x569001=>if x18=true then (some ([]:List (List Int))) else (spec_Truth.l0 k x1 ([]:List (List Int)) (x1.length:Int) 0 x569000 x569001)
def spec_Truth.l0:Nat→List (S56)→List (List Int)→Int→Int→Int→List (S88)→Option ((List (List Int)))
 | 0,_,_,_,_,_,_=>none
 | k+1,x1,x5,x20,x21,x569000,x569001=>if x21<x20 then (if 0≤x569000 then (if (x569000:Int).toNat≤35184372088832 then (if 0≤(wrap64 (x21+1)) then (if (wrap64 (x21+1))≤(x1.length:Int) then ((some (x1.take ((wrap64 (x21+1)):Int).toNat:List (S56))).bind fun y573=>(spec_Truth.l1 k x1 x5 (List.replicate (x569000:Int).toNat 0) x20 x21 y573 (y573.length:Int) 0 x569000 x569001)) else (none)) else (none)) else (none)) else (none)) else (some x5)
def spec_Truth.l1:Nat→List (S56)→List (List Int)→List Int→Int→Int→List (S56)→Int→Int→Int→List (S88)→Option ((List (List Int)))
 | 0,_,_,_,_,_,_,_,_,_,_=>none
 | k+1,x1,x5,x7,x20,x21,x30,x31,x32,x569000,x569001=>if x32<x31 then (if 0≤x32 then (if x32<(x30.length:Int) then (if ((rd_T56 x30 x32).f0)=1 then ((spec_EventOk.f k x569000 x569001 ((rd_T56 x30 x32).f0) ((rd_T56 x30 x32).f1) ((rd_T56 x30 x32).f2)).bind fun t582=>(spec_Truth.j3 k x1 x5 x7 x20 x21 x30 x31 x32 (!t582) x569000 x569001 ((rd_T56 x30 x32).f0) ((rd_T56 x30 x32).f1) ((rd_T56 x30 x32).f2))) else (spec_Truth.j3 k x1 x5 x7 x20 x21 x30 x31 x32 true x569000 x569001 ((rd_T56 x30 x32).f0) ((rd_T56 x30 x32).f1) ((rd_T56 x30 x32).f2))) else (none)) else (none)) else (if x5.length<5864062014805 then (spec_Truth.l0 k x1 (x5 ++ [x7]) x20 (wrap64 (x21+1)) x569000 x569001) else (none))
def spec_Truth.j3:Nat→List (S56)→List (List Int)→List Int→Int→Int→List (S56)→Int→Int→Bool→Int→List (S88)→Int→Int→Int→Option ((List (List Int)))
 | 0,_,_,_,_,_,_,_,_,_,_,_,_,_,_=>none
 | k+1,x1,x5,x7,x20,x21,x30,x31,x32,x44,x569000,x569001,x582000,x582001,x582002=>if x44=true then (spec_Truth.l1 k x1 x5 x7 x20 x21 x30 x31 (wrap64 (x32+1)) x569000 x569001) else (if 0≤x582001 then (if x582001<(x569001.length:Int) then (if ((rd_T88 x569001 x582001).f0) ≥ 0 then (if 0≤((rd_T88 x569001 x582001).f0) then (if ((rd_T88 x569001 x582001).f0)<(x7.length:Int) then ((some (x7.set (((rd_T88 x569001 x582001).f0):Int).toNat (wrap64 ((rd x7 ((rd_T88 x569001 x582001).f0)) - x582002)):List Int)).bind fun y586=>(if ((rd_T88 x569001 x582001).f1) ≥ 0 then (if 0≤((rd_T88 x569001 x582001).f1) then (if ((rd_T88 x569001 x582001).f1)<(x7.length:Int) then (spec_Truth.l1 k x1 x5 (y586.set (((rd_T88 x569001 x582001).f1):Int).toNat (wrap64 ((rd y586 ((rd_T88 x569001 x582001).f1))+x582002))) x20 x21 x30 x31 (wrap64 (x32+1)) x569000 x569001) else (none)) else (none)) else (spec_Truth.l1 k x1 x5 y586 x20 x21 x30 x31 (wrap64 (x32+1)) x569000 x569001))) else (none)) else (none)) else (if ((rd_T88 x569001 x582001).f1) ≥ 0 then (if 0≤((rd_T88 x569001 x582001).f1) then (if ((rd_T88 x569001 x582001).f1)<(x7.length:Int) then (spec_Truth.l1 k x1 x5 (x7.set (((rd_T88 x569001 x582001).f1):Int).toNat (wrap64 ((rd x7 ((rd_T88 x569001 x582001).f1))+x582002))) x20 x21 x30 x31 (wrap64 (x32+1)) x569000 x569001) else (none)) else (none)) else (spec_Truth.l1 k x1 x5 x7 x20 x21 x30 x31 (wrap64 (x32+1)) x569000 x569001))) else (none)) else (none))
end
def spec_Truth.f (k:Nat) (a0_0:Int) (l0_1:List (S88)) (l1:List (S56)):Option ((List (List Int))):=(spec_LayoutOk.f k a0_0 l0_1).bind fun t569=>(if t569=0 then (spec_Truth.j0 k l1 (decide ((l1.length:Int) > 2000)) a0_0 l0_1) else (spec_Truth.j0 k l1 true a0_0 l0_1))
def spec_Truth.T14:Bool × List (List Nat × List Nat):=(true,[([],[]),([],[]),([1],[1]),([0,2],[0,2]),([3],[3]),([],[]),([5],[5]),([4,6],[4,6]),([0,2,0,1,2,3,4,5,6,7],[0,2]),([8,7,0,1,2,3,4,5,6,7],[7,8])])
def spec_Truth.B14:List Nat:=[0,0,2,7,15,0,32,127,255,511]
theorem spec_Truth.tab14:rtab .any (opsOf Try.f58 14)=spec_Truth.T14:=by kernel_rfl
theorem spec_Truth.bits14:waitsOk spec_Truth.T14.2 spec_Truth.B14=true:=by kernel_rfl
def spec_Truth.T16:Bool × List (List Nat × List Nat):=(true,[([],[]),([],[]),([1],[1]),([0,2],[0,2]),([3],[3]),([],[]),([5],[5]),([4,6],[4,6]),([0,2,0,1,2,3,4,5,6,7],[0,2]),([8,7,0,1,2,3,4,5,6,7],[7,8])])
def spec_Truth.B16:List Nat:=[0,0,2,7,15,0,32,127,255,511]
theorem spec_Truth.tab16:rtab .any (opsOf Try.f58 16)=spec_Truth.T16:=by kernel_rfl
theorem spec_Truth.bits16:waitsOk spec_Truth.T16.2 spec_Truth.B16=true:=by kernel_rfl
set_option maxHeartbeats 8000000 in
set_option maxRecDepth 100000 in
theorem spec_Truth.calls (k:Nat) (a0_0:Int) (A0_1:Option Addr) (c0_1:Nat) (l0_1:List (S88)) (A1:Option Addr) (c1:Nat) (l1:List (S56)) (r:List (List Int)) (w:World) (hr0_1:Kd.C k88 w A0_1 l0_1.length l0_1) (hc0_1:l0_1.length≤c0_1) (hr1:Kd.C k56 w A1 l1.length l1) (hc1:l1.length≤c1) (h:spec_Truth.f k a0_0 l0_1 l1=some r) :
  Calls Try.prog 58 #[.agg #[.int .i64 a0_0,.slice A0_1 l0_1.length c0_1],.slice A1 l1.length c1] w fun e w'=>∃ v0_:Value,e=.returned (v0_)∧Kd.S (Kd.slice 3 (Kd.int .i64)) 59 w' w.heap.size (fun _=>True) v0_ r∧Below w.heap.size w w':=by
 have hu30:=Try.underlying30
 have hu56:=Try.underlying56
 have hu88:=Try.underlying88
 have HR0_1:=Aside0.mk hr0_1
 have HC0_1:=Aside0.mk hc0_1
 clear hr0_1 hc0_1
 have HR1:=Aside0.mk hr1
 have HC1:=Aside0.mk hc1
 clear hr1 hc1
 have HB:=Aside0.mk (Below.refl w.heap.size w)
 have H:((spec_LayoutOk.f k a0_0 l0_1).bind fun t569=>(if t569=0 then (spec_Truth.j0 k l1 (decide ((l1.length:Int) > 2000)) a0_0 l0_1) else (spec_Truth.j0 k l1 true a0_0 l0_1)))=some r:=h
 clear h
 have HC3:=Aside0.mk H
 clear H
 go_enter Try.func58,Try.ntmps58
 go_upto_region 1 with (first|((with_reducible refine gate_dst (N:=2) rfl ?_);(try (refine gate_guard (by rfl) ?_;dsimp only));refine box_event ?hg (N:=2) ?hd (cs:=#[.int .i64 a0_0,.slice A0_1 l0_1.length c0_1]) (t:=30) ?hr ?_;(case hd=>rfl);(case hg=>rfl);(case hr=>first|(go_simp;done)|(go_simp;rfl));intro gb568 hg w4 hbox hb;have n0_:=Aside0.mk (below_step (by exact HB.out) hb);have n1_:=Aside0.mk (hbox);have n2_:=Aside0.mk ((by rw [hg];exact (below_size (by exact HB.out)):w.heap.size≤gb568));have n3_:=Aside0.mk ((by rw [hg];exact (below_size (by exact HB.out)):w.heap.size≤gb568));clear HB;have HB:=n0_;have BK568:=n1_;have GW568:=n2_;have GE568:=n3_;clear n0_ n1_ n2_ n3_;clear hb hbox hg))
 (try simp only [Act.put,List.setIfInBounds_toArray,List.set_cons_zero,List.set_cons_succ])
 go_cut [18] (fun v18 wc=>∃ (kq:Nat) (x18_2:Bool),v18=.bool x18_2∧Aside0 (spec_Truth.j0 kq l1 x18_2 a0_0 l0_1=some r)∧Aside0 (kq≤k)∧Aside0 (wc.heap[gb568]?=some (.cells #[.int .i64 a0_0,(.slice A0_1 l0_1.length c0_1)] 30 (0,0)))∧Aside0 (Below w.heap.size w wc))
 case first =>
  have H:=HC3.out
  clear HC3
  replace H:=Option.bind_eq_some_iff.mp H
  obtain ⟨t569,A50,H⟩:=H
  replace H:(if t569=0 then (spec_Truth.j0 k l1 (decide ((l1.length:Int) > 2000)) a0_0 l0_1) else (spec_Truth.j0 k l1 true a0_0 l0_1))=some r:=H
  have A5:=Aside0.mk A50
  clear A50
  by_cases c6:t569=0
  ·rw [if_pos c6] at H
   have c6b0:(t569==0)=true:=beq_iff_eq.mpr c6
   have c6b1:(t569 != 0)=false:=bne_eq_false_iff_eq.mpr c6
   clear c6
   (first|rw [c6b0]|(simp only [i64_w,i32_w];rw [c6b0])|skip)
   have H':=Aside0.mk H
   clear H
   have hcz7_0:w4.cell? ⟨gb568,0,none⟩=some (.int .i64 a0_0):=(blk_cell BK568.out 0).trans rfl
   have hcz7_1:w4.cell? ⟨gb568,1,none⟩=some (.slice A0_1 l0_1.length c0_1):=(blk_cell BK568.out 1).trans rfl
   have hfz7_0:=blk_frozen BK568.out 0
   have hfz7_1:=blk_frozen BK568.out 1
   go_wp2_with (first|((with_reducible refine gate_callee (f:=23) rfl ?_);refine goesL_ (some 12) rfl rfl Try.func23 (by kernel_rfl) rfl #[.agg #[.int .i64 a0_0,.slice A0_1 l0_1.length c0_1]] rfl (by (try simp only [List.map_toArray,List.map_cons,List.map_nil]);first|done|rfl|(simp only [List.length_drop,List.length_take];rfl)) ?_;(with_reducible refine (spec_LayoutOk.calls k a0_0 _ _ l0_1 t569 _ ?side1 ?side2 A5.out).mono ?_);(case side1=>repeat (first|exact (Kd.C_below HR0_1.out HB.out)|(with_reducible refine Kd.C_alloc ?_ _)|(with_reducible refine Kd.C_drewN ?_ _)|(with_reducible refine Kd.C_drew ?_)));(case side2=>exact HC0_1.out);rintro e w8 ⟨rfl,hb⟩;refine ⟨_,rfl,?_⟩;have n0_:=Aside0.mk (blk_below (g:=gb568) (o:=.cells #[.int .i64 a0_0,.slice A0_1 l0_1.length c0_1] 30 (0,0)) (by exact BK568.out) hb);have n1_:=Aside0.mk (below_step (by exact HB.out) hb);clear BK568;clear HB;have BK568:=n0_;have HB:=n1_;clear n0_ n1_;(try clear hb);(try clear hb2);(try clear hk);(try clear hi)))
   go_meet
   case rel=>exact ⟨_,(decide ((l1.length:Int) > 2000)),(by first|rfl|(simp;done)|(simp [*];done)),H',⟨by first|omega|exact Nat.le_refl _⟩,⟨by exact BK568.out⟩,⟨by exact HB.out⟩⟩
  rw [if_neg c6] at H
  have c6b0:(t569==0)=false:=beq_eq_false_iff_ne.mpr c6
  have c6b1:(t569 != 0)=true:=bne_iff_ne.mpr c6
  (first|rw [c6b0]|(simp only [i64_w,i32_w];rw [c6b0])|skip)
  have H':=Aside0.mk H
  clear H
  have hcz9_0:w4.cell? ⟨gb568,0,none⟩=some (.int .i64 a0_0):=(blk_cell BK568.out 0).trans rfl
  have hcz9_1:w4.cell? ⟨gb568,1,none⟩=some (.slice A0_1 l0_1.length c0_1):=(blk_cell BK568.out 1).trans rfl
  have hfz9_0:=blk_frozen BK568.out 0
  have hfz9_1:=blk_frozen BK568.out 1
  go_wp2_with (first|((with_reducible refine gate_callee (f:=23) rfl ?_);refine goesL_ (some 12) rfl rfl Try.func23 (by kernel_rfl) rfl #[.agg #[.int .i64 a0_0,.slice A0_1 l0_1.length c0_1]] rfl (by (try simp only [List.map_toArray,List.map_cons,List.map_nil]);first|done|rfl|(simp only [List.length_drop,List.length_take];rfl)) ?_;(with_reducible refine (spec_LayoutOk.calls k a0_0 _ _ l0_1 t569 _ ?side1 ?side2 A5.out).mono ?_);(case side1=>repeat (first|exact (Kd.C_below HR0_1.out HB.out)|(with_reducible refine Kd.C_alloc ?_ _)|(with_reducible refine Kd.C_drewN ?_ _)|(with_reducible refine Kd.C_drew ?_)));(case side2=>exact HC0_1.out);rintro e w10 ⟨rfl,hb⟩;refine ⟨_,rfl,?_⟩;have n0_:=Aside0.mk (blk_below (g:=gb568) (o:=.cells #[.int .i64 a0_0,.slice A0_1 l0_1.length c0_1] 30 (0,0)) (by exact BK568.out) hb);have n1_:=Aside0.mk (below_step (by exact HB.out) hb);clear BK568;clear HB;have BK568:=n0_;have HB:=n1_;clear n0_ n1_;(try clear hb);(try clear hb2);(try clear hk);(try clear hi)))
  go_meet
  case rel=>exact ⟨_,(true),(by first|rfl|(simp;done)|(simp [*];done)),H',⟨by first|omega|exact Nat.le_refl _⟩,⟨by exact BK568.out⟩,⟨by exact HB.out⟩⟩
 case rest =>
  clear HC3
  try clear c1
  try clear c2
  try clear p2
  try clear c5
  try clear c6
  try clear c6b0
  try clear c6b1
  try clear hcz7_0
  try clear hcz7_1
  try clear hcz9_0
  try clear hcz9_1
  try clear hfz7_0
  try clear hfz7_1
  try clear hfz9_0
  try clear hfz9_1
  obtain ⟨kq,x18_2,rfl,HA,HJ2,BK568,HB⟩:=hcut
  cases kq with
  | zero=>exact absurd HA.out (by simp [spec_Truth.j0])
  | succ kj2 =>
   have H:=HA.out
   clear HA
   simp only [spec_Truth.j0] at H
   by_cases c11:x18_2=true
   ·subst c11
    have H1:(some ([]:List (List Int)))=some r:=by rw [if_pos rfl] at H;exact H
    clear H
    have H:=H1
    clear H1
    obtain rfl:=Option.some.inj H
    go_wp2
    go_ret
    exact ⟨_,by first|rfl|(simp [errW_none,errW_some] <;> rfl)|(simp [*,errW_none,errW_some] <;> rfl),by first|exact Kd.S_nil _ _ _ _ _|exact Kd.N_nil _ _ _ _ _|exact Kd.V_nil _ _ _ _ _|exact Kd.Q_nil _ _ _ _ _|exact Kd.R_nil _ _ _ _ _,by exact HB.out⟩
   replace c11:=Bool.eq_false_iff.mpr c11
   subst c11
   have H1:(spec_Truth.l0 kj2 l1 ([]:List (List Int)) (l1.length:Int) 0 a0_0 l0_1)=some r:=by rw [if_neg (show ¬ (false=true) by decide)] at H;exact H
   clear H
   have H:=H1
   clear H1
   have H':=Aside0.mk H
   clear H
   go_wp2
   go_loopg [5,21] kj2 (fun kq v5 v21 w'=>∃ (x5_2:List (List Int)) (x21_2:Int),v21=.int .i64 x21_2∧Aside0 (spec_Truth.l0 kq l1 x5_2 (l1.length:Int) x21_2 a0_0 l0_1=some r)∧Aside0 (kq≤kj2)∧Aside0 (Kd.S (Kd.slice 3 (Kd.int .i64)) 59 w' w.heap.size (fun _=>True) v5 x5_2)∧Aside0 (w'.heap[gb568]?=some (.cells #[.int .i64 a0_0,(.slice A0_1 l0_1.length c0_1)] 30 (0,0)))∧Aside0 (Below w.heap.size w w'))
   case atStart=>exact ⟨(([]:List (List Int))),(0),(by first|rfl|(simp;done)|(simp [*];done)),H',⟨Nat.le_refl _⟩,⟨by first|exact Kd.S_nil _ _ _ _ _|exact Kd.N_nil _ _ _ _ _|exact Kd.V_nil _ _ _ _ _|exact Kd.Q_nil _ _ _ _ _|exact Kd.R_nil _ _ _ _ _⟩,⟨by exact BK568.out⟩,⟨by exact HB.out⟩⟩
   case round =>
    clear H'
    try clear c1
    try clear c2
    try clear p2
    try clear c5
    try clear c6
    try clear c6b0
    try clear c6b1
    try clear c11
    try clear hcz7_0
    try clear hcz7_1
    try clear hcz9_0
    try clear hcz9_1
    try clear hfz7_0
    try clear hfz7_1
    try clear hfz9_0
    try clear hfz9_1
    try clear p2
    obtain ⟨x5_2,x21_2,rfl,HA,HK2,HO_5,BK568,HB⟩:=hrel
    cases gk with
    | zero=>exact absurd HA.out (by simp [spec_Truth.l0])
    | succ k2 =>
     have H:=HA.out
     clear HA
     simp only [spec_Truth.l0] at H
     by_cases c12:x21_2<(l1.length:Int)
     ·rw [if_pos c12] at H
      have c12b0:decide (x21_2<(l1.length:Int))=true:=decide_eq_true c12
      clear c12
      by_cases c13:0≤a0_0
      ·rw [if_pos c13] at H
       have c13b0:=eq_true c13
       have c13b1:decide (0≤a0_0)=true:=decide_eq_true c13
       clear c13
       by_cases c14:(a0_0:Int).toNat≤35184372088832
       ·rw [if_pos c14] at H
        have c14b0:=eq_true c14
        have c14b1:decide ((a0_0:Int).toNat≤35184372088832)=true:=decide_eq_true c14
        clear c14
        obtain ⟨y570,hy570⟩:∃ y_:List Int,y_=(List.replicate (a0_0:Int).toNat 0):=⟨_,rfl⟩
        replace H:(if 0≤(wrap64 (x21_2+1)) then (if (wrap64 (x21_2+1))≤(l1.length:Int) then ((some (l1.take ((wrap64 (x21_2+1)):Int).toNat:List (S56))).bind fun y573=>(spec_Truth.l1 k2 l1 x5_2 y570 (l1.length:Int) x21_2 y573 (y573.length:Int) 0 a0_0 l0_1)) else (none)) else (none))=some r:=by first|(rw [hy570];with_reducible exact H)|(have H2_:=(Option.bind_some _ _).symm.trans H;rw [hy570];with_reducible exact H2_)|(have H2_:=(Option.bind_some _ _).symm.trans H;with_reducible exact H2_)|with_reducible exact H|(rw [hy570];exact H)|exact H
        have Ny570:=Aside0.mk hy570
        clear hy570
        obtain ⟨ji15,hji15⟩:∃ j_:Int,(wrap64 (x21_2+1))=j_:=⟨_,rfl⟩
        replace H:(if 0≤(ji15) then (if (ji15)≤(l1.length:Int) then ((some (l1.take ((ji15):Int).toNat:List (S56))).bind fun y573=>(spec_Truth.l1 k2 l1 x5_2 y570 (l1.length:Int) x21_2 y573 (y573.length:Int) 0 a0_0 l0_1)) else (none)) else (none))=some r:=by first|(rw [hji15] at H;exact H)|(simp only [hji15] at H ⊢;exact H)
        have hji15w:(IntKind.i64.wrap (x21_2+1))=ji15:=(i64_w _).trans hji15
        by_cases c16:0≤(ji15)
        ·rw [if_pos c16] at H
         have c16b0:=eq_true c16
         have c16b1:decide (0≤(ji15))=true:=decide_eq_true c16
         clear c16
         by_cases c17:(ji15)≤(l1.length:Int)
         ·rw [if_pos c17] at H
          have c17b0:=eq_true c17
          have c17b1:decide ((ji15)≤(l1.length:Int))=true:=decide_eq_true c17
          clear c17
          obtain ⟨y573,hy573⟩:∃ y_:List (S56),y_=(l1.take ((ji15):Int).toNat):=⟨_,rfl⟩
          replace H:(spec_Truth.l1 k2 l1 x5_2 y570 (l1.length:Int) x21_2 y573 (y573.length:Int) 0 a0_0 l0_1)=some r:=by first|(rw [hy573];with_reducible exact H)|(have H2_:=(Option.bind_some _ _).symm.trans H;rw [hy573];with_reducible exact H2_)|(have H2_:=(Option.bind_some _ _).symm.trans H;with_reducible exact H2_)|with_reducible exact H|(rw [hy573];exact H)|exact H
          have Ny573:=Aside0.mk hy573
          clear hy573
          have H':=Aside0.mk H
          clear H
          have hcz18_0:wr.cell? ⟨gb568,0,none⟩=some (.int .i64 a0_0):=(blk_cell BK568.out 0).trans rfl
          have hcz18_1:wr.cell? ⟨gb568,1,none⟩=some (.slice A0_1 l0_1.length c0_1):=(blk_cell BK568.out 1).trans rfl
          have hfz18_0:=blk_frozen BK568.out 0
          have hfz18_1:=blk_frozen BK568.out 1
          go_wp2_with (first|((with_reducible refine gate_dst (N:=26) rfl ?_);(try (refine gate_guard (by rfl) ?_;dsimp only));refine Kd.R_make (Kd.int .i64) _ 3 rfl (N:=26) rfl 59 _ _ rfl a0_0 rfl rfl Try.underlying59 (.int .i64 0) 8 info3 rfl (by decide) (by omega) 0 (ok:=fun _=>True) (okp:=fun _=>True) rfl (fun _ hk=>hk) trivial (of_decide_eq_true (by first|(with_reducible assumption)|assumption)) (Nat.le_trans (Nat.mul_le_mul_right _ (of_decide_eq_true (by first|(with_reducible assumption)|assumption):a0_0.toNat≤35184372088832)) (by omega)) (Below.refl _ _) (Nat.le_refl _) ?_;intro v571 w19 ho20 hb hg_ hnew_;clear hg_ hnew_;(first|rw [← Ny570.out] at ho20|(simp only [Int.reduceToNat] at ho20;rw [← Ny570.out] at ho20));have n0_:=Aside0.mk (Kd.S_elder' (by exact HO_5.out) (Kd.R_base ho20) hb);have n1_:=Aside0.mk (Kd.R_lower ho20 (below_size (by exact HB.out)));have n2_:=Aside0.mk (blk_below (g:=gb568) (o:=.cells #[.int .i64 a0_0,.slice A0_1 l0_1.length c0_1] 30 (0,0)) (by exact BK568.out) hb);have n3_:=Aside0.mk (below_step (by exact HB.out) hb);clear HO_5;clear BK568;clear HB;have HO_5:=n0_;have HO572:=n1_;have BK568:=n2_;have HB:=n3_;clear n0_ n1_ n2_ n3_;clear hb ho20;have q21:((ji15):Int)≤((l1.length:Int):Int):=of_decide_eq_true (by first|(with_reducible assumption)|assumption);obtain ⟨i021,hi021,_,hsz21,_⟩:=info_parts info56;have hroom21:l1.length≤c1:=HC1.out;have hC21:Kd.C k56 _ A1 l1.length l1:=HR1.out;have hcut21:=cut_to (P:=Try.prog) 35 56 .i64 Try.underlying35 hi021 A1 l1.length c1 (ji15) (of_decide_eq_true (by first|(with_reducible assumption)|assumption)) q21 hroom21;have hr21:=Kd.C_take (m:=((ji15):Int).toNat) hC21 (by omega);have hy21:y573.length=((ji15):Int).toNat:=(by rw [Ny573.out,List.length_take];omega);rw [← Ny573.out] at hr21;rw [← hy21] at hcut21;have HR576:=Aside0.mk hr21;have HC576:=Aside0.mk (show y573.length≤c1 from by omega);clear hr21 hC21 hroom21 hi021 hsz21;have KY21:=Aside0.mk hy21;clear hy21;replace q21:=eq_true q21))
          go_loopg [32] k2 (fun kq v32 w'=>∃ (x7_3:List Int) (x32_3:Int),v32=.int .i64 x32_3∧Aside0 (spec_Truth.l1 kq l1 x5_2 x7_3 (l1.length:Int) x21_2 y573 (y573.length:Int) x32_3 a0_0 l0_1=some r)∧Aside0 (kq≤k2)∧Aside0 (Kd.S (Kd.slice 3 (Kd.int .i64)) 59 w' w.heap.size (fun k_=>some k_ ≠ (v571:Value).ownBlock) u5 x5_2)∧Aside0 (Kd.R (Kd.int .i64) 3 w' w.heap.size (fun _=>True) v571 x7_3)∧Aside0 (w'.heap[gb568]?=some (.cells #[.int .i64 a0_0,(.slice A0_1 l0_1.length c0_1)] 30 (0,0)))∧Aside0 (Below w.heap.size w w'))
          case atStart=>exact ⟨(y570),(0),(by first|rfl|(simp;done)|(simp [*];done)),H',⟨Nat.le_refl _⟩,⟨by (with_reducible repeat (first|apply Kd.S_alloc|apply Kd.S_drewN|apply Kd.S_drew));exact Kd.S_mono HO_5.out (fun _ hk=>hk.2)⟩,⟨by (with_reducible repeat (first|apply Kd.R_alloc|apply Kd.R_drewN|apply Kd.R_drew));exact HO572.out⟩,⟨by (with_reducible repeat (first|refine blk_drewN ?_ _|refine blk_drew ?_|refine blk_alloc ?_ _));exact BK568.out⟩,⟨by repeat (first|(with_reducible first|exact HB.out|apply below_alloc|apply pw_below_drewN|apply below_drew1|refine below_set ?_ GE568.out)|exact HB.out)⟩⟩
          case round =>
           clear H'
           try clear c1
           try clear c2
           try clear p2
           try clear q2
           try clear c5
           try clear c6
           try clear c6b0
           try clear c6b1
           try clear p6
           try clear c11
           try clear c12
           try clear c12b0
           try clear c13
           try clear c13b0
           try clear c13b1
           try clear c14
           try clear c14b0
           try clear c14b1
           try clear c16
           try clear c16b0
           try clear c16b1
           try clear c17
           try clear c17b0
           try clear c17b1
           try clear q21
           try clear hcz18_0
           try clear hcz18_1
           try clear hcz7_0
           try clear hcz7_1
           try clear hcz9_0
           try clear hcz9_1
           try clear hfz18_0
           try clear hfz18_1
           try clear hfz7_0
           try clear hfz7_1
           try clear hfz9_0
           try clear hfz9_1
           try clear p2
           try clear q21
           obtain ⟨x7_3,x32_3,rfl,HA,HK3,HO_5,HO_7,BK568,HB⟩:=hrel
           cases gk with
           | zero=>exact absurd HA.out (by simp [spec_Truth.l1])
           | succ k3 =>
            have H:=HA.out
            clear HA
            simp only [spec_Truth.l1] at H
            by_cases c22:x32_3<(y573.length:Int)
            ·rw [if_pos c22] at H
             have c22b0:decide (x32_3<(y573.length:Int))=true:=decide_eq_true c22
             clear c22
             by_cases c23:0≤x32_3
             ·rw [if_pos c23] at H
              have c23b0:decide (0≤x32_3)=true:=decide_eq_true c23
              clear c23
              by_cases c24:x32_3<(y573.length:Int)
              ·rw [if_pos c24] at H
               have c24b0:decide (x32_3<(y573.length:Int))=true:=decide_eq_true c24
               clear c24
               have HC25:=Aside0.mk H
               clear H
               have p580:0≤(x32_3:Int):=of_decide_eq_true (by first|(with_reducible assumption)|assumption)
               have q580:x32_3<(y573.length:Int):=of_decide_eq_true (by first|(with_reducible assumption)|assumption)
               obtain ⟨ad580,e580,hx580_0,hx580_1,hx580_2⟩:=at_T56 HR576.out x32_3 p580 q580
               cases e580
               replace hx580_0:=(HB.out.cell (World.block_lt_of_cell? w _ hx580_0)).trans hx580_0
               replace hx580_1:=(HB.out.cell (World.block_lt_of_cell? w _ hx580_1)).trans hx580_1
               replace hx580_2:=(HB.out.cell (World.block_lt_of_cell? w _ hx580_2)).trans hx580_2
               replace p580:=eq_true p580
               replace q580:=eq_true q580
               go_upto_region 11 with (first|((with_reducible refine gate_dst (N:=9) rfl ?_);(try (refine gate_guard (by rfl) ?_;dsimp only));refine box_event ?hg (N:=9) ?hd (cs:=#[.int .i64 0,.int .i64 0,.int .i64 0]) (t:=56) ?hr ?_;(case hd=>rfl);(case hg=>rfl);(case hr=>first|(go_simp;done)|(go_simp;rfl));intro gb581 hg w26 hbox hb;have n0_:=Aside0.mk (Kd.S_below (by (with_reducible repeat (first|apply Kd.S_alloc|apply Kd.S_drewN|apply Kd.S_drew));exact HO_5.out) hb);have n1_:=Aside0.mk (Kd.R_below (by (with_reducible repeat (first|apply Kd.R_alloc|apply Kd.R_drewN|apply Kd.R_drew));exact HO_7.out) hb);have n2_:=Aside0.mk (blk_below (g:=gb568) (o:=.cells #[.int .i64 a0_0,.slice A0_1 l0_1.length c0_1] 30 (0,0)) (by (with_reducible repeat (first|refine blk_drewN ?_ _|refine blk_drew ?_|refine blk_alloc ?_ _));exact BK568.out) hb);have n3_:=Aside0.mk (below_step (by repeat (first|(with_reducible first|exact HB.out|apply below_alloc|apply pw_below_drewN|apply below_drew1|refine below_set ?_ GE568.out)|exact HB.out)) hb);have n4_:=Aside0.mk (hbox);have n5_:=Aside0.mk ((by rw [hg];exact (below_size (by repeat (first|(with_reducible first|exact HB.out|apply below_alloc|apply pw_below_drewN|apply below_drew1|refine below_set ?_ GE568.out)|exact HB.out))):w.heap.size≤gb581));have n6_:=Aside0.mk ((by rw [hg];exact (below_size (by repeat (first|(with_reducible first|exact HB.out|apply below_alloc|apply pw_below_drewN|apply below_drew1|refine below_set ?_ GE568.out)|exact HB.out))):w.heap.size≤gb581));have n7_:=Aside0.mk ((by rw [hg];exact Nat.ne_of_lt (blk_lt (g:=gb568) (o:=.cells #[.int .i64 a0_0,.slice A0_1 l0_1.length c0_1] 30 (0,0)) (by (with_reducible repeat (first|refine blk_drewN ?_ _|refine blk_drew ?_|refine blk_alloc ?_ _));exact BK568.out)):gb568 ≠ gb581));have n8_:=Aside0.mk ((by rw [hg];exact Nat.ne_of_gt (blk_lt (g:=gb568) (o:=.cells #[.int .i64 a0_0,.slice A0_1 l0_1.length c0_1] 30 (0,0)) (by (with_reducible repeat (first|refine blk_drewN ?_ _|refine blk_drew ?_|refine blk_alloc ?_ _));exact BK568.out)):gb581 ≠ gb568));clear HO_5;clear HO_7;clear BK568;clear HB;have HO_5:=n0_;have HO_7:=n1_;have BK568:=n2_;have HB:=n3_;have BK581:=n4_;have GW581:=n5_;have GE581:=n6_;have NB568_581:=n7_;have NB581_568:=n8_;clear n0_ n1_ n2_ n3_ n4_ n5_ n6_ n7_ n8_;clear hb hbox hg;have hnb27:=NB581_568.out;have hnc27:=NB568_581.out;have hcz28_0:w26.cell? ⟨gb581,0,none⟩=some (.int .i64 0):=(blk_cell BK581.out 0).trans rfl;have hcz28_1:w26.cell? ⟨gb581,1,none⟩=some (.int .i64 0):=(blk_cell BK581.out 1).trans rfl;have hcz28_2:w26.cell? ⟨gb581,2,none⟩=some (.int .i64 0):=(blk_cell BK581.out 2).trans rfl;have hfz28_0:=blk_frozen BK581.out 0;have hfz28_1:=blk_frozen BK581.out 1;have hfz28_2:=blk_frozen BK581.out 2))
               (try simp only [Act.put,List.setIfInBounds_toArray,List.set_cons_zero,List.set_cons_succ])
               go_cut [44] (fun v44 wc=>∃ (kq:Nat) (x44_24:Bool),v44=.bool x44_24∧Aside0 (spec_Truth.j3 kq l1 x5_2 x7_3 (l1.length:Int) x21_2 y573 (y573.length:Int) x32_3 x44_24 a0_0 l0_1 ((rd_T56 y573 x32_3).f0) ((rd_T56 y573 x32_3).f1) ((rd_T56 y573 x32_3).f2)=some r)∧Aside0 (kq≤k3)∧Aside0 (Kd.S (Kd.slice 3 (Kd.int .i64)) 59 wc w.heap.size (fun k_=>some k_ ≠ (v571:Value).ownBlock) u5 x5_2)∧Aside0 (Kd.R (Kd.int .i64) 3 wc w.heap.size (fun _=>True) v571 x7_3)∧Aside0 (wc.heap[gb568]?=some (.cells #[.int .i64 a0_0,(.slice A0_1 l0_1.length c0_1)] 30 (0,0)))∧Aside0 (wc.heap[gb581]?=some (.cells #[.int .i64 ((rd_T56 y573 x32_3).f0),.int .i64 ((rd_T56 y573 x32_3).f1),.int .i64 ((rd_T56 y573 x32_3).f2)] 56 (0,0)))∧Aside0 (Below w.heap.size w wc))
               case first =>
                have H:=HC25.out
                clear HC25
                by_cases c29:((rd_T56 y573 x32_3).f0)=1
                ·rw [if_pos c29] at H
                 have c29b0:(((rd_T56 y573 x32_3).f0)==1)=true:=beq_iff_eq.mpr c29
                 have c29b1:(((rd_T56 y573 x32_3).f0) != 1)=false:=bne_eq_false_iff_eq.mpr c29
                 clear c29
                 (first|rw [c29b0]|(simp only [i64_w,i32_w];rw [c29b0])|skip)
                 replace H:=Option.bind_eq_some_iff.mp H
                 obtain ⟨t582,A300,H⟩:=H
                 replace H:(spec_Truth.j3 k3 l1 x5_2 x7_3 (l1.length:Int) x21_2 y573 (y573.length:Int) x32_3 (!t582) a0_0 l0_1 ((rd_T56 y573 x32_3).f0) ((rd_T56 y573 x32_3).f1) ((rd_T56 y573 x32_3).f2))=some r:=H
                 have A30:=Aside0.mk A300
                 clear A300
                 have H':=Aside0.mk H
                 clear H
                 have hnb31:=NB581_568.out
                 have hnc31:=NB568_581.out
                 have hcz32_0:w26.cell? ⟨gb581,0,none⟩=some (.int .i64 0):=(blk_cell BK581.out 0).trans rfl
                 have hcz32_1:w26.cell? ⟨gb581,1,none⟩=some (.int .i64 0):=(blk_cell BK581.out 1).trans rfl
                 have hcz32_2:w26.cell? ⟨gb581,2,none⟩=some (.int .i64 0):=(blk_cell BK581.out 2).trans rfl
                 have hfz32_0:=blk_frozen BK581.out 0
                 have hfz32_1:=blk_frozen BK581.out 1
                 have hfz32_2:=blk_frozen BK581.out 2
                 have hcz33_0:w26.cell? ⟨gb568,0,none⟩=some (.int .i64 a0_0):=(blk_cell BK568.out 0).trans rfl
                 have hcz33_1:w26.cell? ⟨gb568,1,none⟩=some (.slice A0_1 l0_1.length c0_1):=(blk_cell BK568.out 1).trans rfl
                 have hfz33_0:=blk_frozen BK568.out 0
                 have hfz33_1:=blk_frozen BK568.out 1
                 go_wp2_with (first|(go_at_call 34;(with_reducible refine (spec_EventOk.calls k3 a0_0 _ _ l0_1 ((rd_T56 y573 x32_3).f0) ((rd_T56 y573 x32_3).f1) ((rd_T56 y573 x32_3).f2) t582 _ ?side1 ?side2 A30.out).mono ?_);(case side1=>exact Kd.C_below HR0_1.out (by repeat (first|(with_reducible first|exact HB.out|apply below_alloc|apply pw_below_drewN|apply below_drew1|refine below_set ?_ GE568.out|refine below_set ?_ GE581.out)|exact HB.out)));(case side2=>exact HC0_1.out);rintro e w34 ⟨rfl,hb⟩;have n0_:=Aside0.mk (Kd.S_below (by (with_reducible repeat (first|apply Kd.S_alloc|apply Kd.S_drewN|apply Kd.S_drew));exact (Kd.S_mono (Kd.S_far (p:=⟨gb581,2,none⟩) (Kd.S_far (p:=⟨gb581,1,none⟩) (Kd.S_far (p:=⟨gb581,0,none⟩) (Kd.S_types HO_5.out BK581.out (by decide)) (fun _ hk=>hk.2) (.int .i64 ((rd_T56 y573 x32_3).f0))) (fun _ hk=>hk.2) (.int .i64 ((rd_T56 y573 x32_3).f1))) (fun _ hk=>hk.2) (.int .i64 ((rd_T56 y573 x32_3).f2))) (fun _ h_=>h_.1))) hb);have n1_:=Aside0.mk (Kd.R_below (by (with_reducible repeat (first|apply Kd.R_alloc|apply Kd.R_drewN|apply Kd.R_drew));exact (Kd.R_mono (Kd.R_far (p:=⟨gb581,2,none⟩) (Kd.R_far (p:=⟨gb581,1,none⟩) (Kd.R_far (p:=⟨gb581,0,none⟩) (Kd.R_types HO_7.out BK581.out (by decide)) (fun _ hk=>hk.2) (.int .i64 ((rd_T56 y573 x32_3).f0))) (fun _ hk=>hk.2) (.int .i64 ((rd_T56 y573 x32_3).f1))) (fun _ hk=>hk.2) (.int .i64 ((rd_T56 y573 x32_3).f2))) (fun _ h_=>h_.1))) hb);have n2_:=Aside0.mk (blk_below (g:=gb568) (o:=.cells #[.int .i64 a0_0,.slice A0_1 l0_1.length c0_1] 30 (0,0)) (by (with_reducible repeat (first|refine blk_drewN ?_ _|refine blk_drew ?_|refine blk_alloc ?_ _));refine blk_far ?_ NB568_581.out _;(with_reducible repeat (first|refine blk_drewN ?_ _|refine blk_drew ?_|refine blk_alloc ?_ _));refine blk_far ?_ NB568_581.out _;(with_reducible repeat (first|refine blk_drewN ?_ _|refine blk_drew ?_|refine blk_alloc ?_ _));refine blk_far ?_ NB568_581.out _;(with_reducible repeat (first|refine blk_drewN ?_ _|refine blk_drew ?_|refine blk_alloc ?_ _));exact BK568.out) hb);have n3_:=Aside0.mk (blk_below (g:=gb581) (o:=.cells #[.int .i64 ((rd_T56 y573 x32_3).f0),.int .i64 ((rd_T56 y573 x32_3).f1),.int .i64 ((rd_T56 y573 x32_3).f2)] 56 (0,0)) (by (with_reducible repeat (first|refine blk_drewN ?_ _|refine blk_drew ?_|refine blk_alloc ?_ _));refine blk_put (cs:=#[.int .i64 ((rd_T56 y573 x32_3).f0),.int .i64 ((rd_T56 y573 x32_3).f1),.int .i64 0]) ?_ 2 _ rfl;(with_reducible repeat (first|refine blk_drewN ?_ _|refine blk_drew ?_|refine blk_alloc ?_ _));refine blk_put (cs:=#[.int .i64 ((rd_T56 y573 x32_3).f0),.int .i64 0,.int .i64 0]) ?_ 1 _ rfl;(with_reducible repeat (first|refine blk_drewN ?_ _|refine blk_drew ?_|refine blk_alloc ?_ _));refine blk_put (cs:=#[.int .i64 0,.int .i64 0,.int .i64 0]) ?_ 0 _ rfl;(with_reducible repeat (first|refine blk_drewN ?_ _|refine blk_drew ?_|refine blk_alloc ?_ _));exact BK581.out) hb);have n4_:=Aside0.mk (below_step (by repeat (first|(with_reducible first|exact HB.out|apply below_alloc|apply pw_below_drewN|apply below_drew1|refine below_set ?_ GE568.out|refine below_set ?_ GE581.out)|exact HB.out)) hb);clear HO_5;clear HO_7;clear BK568;clear BK581;clear HB;have HO_5:=n0_;have HO_7:=n1_;have BK568:=n2_;have BK581:=n3_;have HB:=n4_;clear n0_ n1_ n2_ n3_ n4_;(try clear hb);(try clear hb2);(try clear hk);(try clear hi)))
                 go_meet
                 case rel=>exact ⟨_,(!t582),(by first|rfl|(simp;done)|(simp [*];done)),H',⟨by have:=HJ2.out;have:=HK2.out;have:=HK3.out;first|omega|exact Nat.le_refl _⟩,⟨by exact HO_5.out⟩,⟨by exact HO_7.out⟩,⟨by exact BK568.out⟩,⟨by exact BK581.out⟩,⟨by exact HB.out⟩⟩
                rw [if_neg c29] at H
                have c29b0:(((rd_T56 y573 x32_3).f0)==1)=false:=beq_eq_false_iff_ne.mpr c29
                have c29b1:(((rd_T56 y573 x32_3).f0) != 1)=true:=bne_iff_ne.mpr c29
                (first|rw [c29b0]|(simp only [i64_w,i32_w];rw [c29b0])|skip)
                have H':=Aside0.mk H
                clear H
                have hnb35:=NB581_568.out
                have hnc35:=NB568_581.out
                have hcz36_0:w26.cell? ⟨gb581,0,none⟩=some (.int .i64 0):=(blk_cell BK581.out 0).trans rfl
                have hcz36_1:w26.cell? ⟨gb581,1,none⟩=some (.int .i64 0):=(blk_cell BK581.out 1).trans rfl
                have hcz36_2:w26.cell? ⟨gb581,2,none⟩=some (.int .i64 0):=(blk_cell BK581.out 2).trans rfl
                have hfz36_0:=blk_frozen BK581.out 0
                have hfz36_1:=blk_frozen BK581.out 1
                have hfz36_2:=blk_frozen BK581.out 2
                go_wp2
                go_meet
                case rel=>exact ⟨_,(true),(by first|rfl|(simp;done)|(simp [*];done)),H',⟨by have:=HJ2.out;have:=HK2.out;have:=HK3.out;first|omega|exact Nat.le_refl _⟩,⟨by (with_reducible repeat (first|apply Kd.S_alloc|apply Kd.S_drewN|apply Kd.S_drew));exact Kd.S_mono (Kd.S_far (p:=⟨gb581,2,none⟩) (Kd.S_far (p:=⟨gb581,1,none⟩) (Kd.S_far (p:=⟨gb581,0,none⟩) (Kd.S_types HO_5.out BK581.out (by decide)) (fun _ hk=>hk.2) (.int .i64 ((rd_T56 y573 x32_3).f0))) (fun _ hk=>hk.2) (.int .i64 ((rd_T56 y573 x32_3).f1))) (fun _ hk=>hk.2) (.int .i64 ((rd_T56 y573 x32_3).f2))) (fun _ hk=>hk.1)⟩,⟨by (with_reducible repeat (first|apply Kd.R_alloc|apply Kd.R_drewN|apply Kd.R_drew));exact Kd.R_mono (Kd.R_far (p:=⟨gb581,2,none⟩) (Kd.R_far (p:=⟨gb581,1,none⟩) (Kd.R_far (p:=⟨gb581,0,none⟩) (Kd.R_types HO_7.out BK581.out (by decide)) (fun _ hk=>hk.2) (.int .i64 ((rd_T56 y573 x32_3).f0))) (fun _ hk=>hk.2) (.int .i64 ((rd_T56 y573 x32_3).f1))) (fun _ hk=>hk.2) (.int .i64 ((rd_T56 y573 x32_3).f2))) (fun _ hk=>trivial)⟩,⟨by (with_reducible repeat (first|refine blk_drewN ?_ _|refine blk_drew ?_|refine blk_alloc ?_ _));refine blk_far ?_ NB568_581.out _;(with_reducible repeat (first|refine blk_drewN ?_ _|refine blk_drew ?_|refine blk_alloc ?_ _));refine blk_far ?_ NB568_581.out _;(with_reducible repeat (first|refine blk_drewN ?_ _|refine blk_drew ?_|refine blk_alloc ?_ _));refine blk_far ?_ NB568_581.out _;(with_reducible repeat (first|refine blk_drewN ?_ _|refine blk_drew ?_|refine blk_alloc ?_ _));exact BK568.out⟩,⟨by (with_reducible repeat (first|refine blk_drewN ?_ _|refine blk_drew ?_|refine blk_alloc ?_ _));refine blk_put (cs:=#[.int .i64 ((rd_T56 y573 x32_3).f0),.int .i64 ((rd_T56 y573 x32_3).f1),.int .i64 0]) ?_ 2 _ rfl;(with_reducible repeat (first|refine blk_drewN ?_ _|refine blk_drew ?_|refine blk_alloc ?_ _));refine blk_put (cs:=#[.int .i64 ((rd_T56 y573 x32_3).f0),.int .i64 0,.int .i64 0]) ?_ 1 _ rfl;(with_reducible repeat (first|refine blk_drewN ?_ _|refine blk_drew ?_|refine blk_alloc ?_ _));refine blk_put (cs:=#[.int .i64 0,.int .i64 0,.int .i64 0]) ?_ 0 _ rfl;(with_reducible repeat (first|refine blk_drewN ?_ _|refine blk_drew ?_|refine blk_alloc ?_ _));exact BK581.out⟩,⟨by repeat (first|(with_reducible first|exact HB.out|apply below_alloc|apply pw_below_drewN|apply below_drew1|refine below_set ?_ GE568.out|refine below_set ?_ GE581.out)|exact HB.out)⟩⟩
               case rest =>
                clear HC25
                try clear c1
                try clear c2
                try clear p2
                try clear q2
                try clear c3
                try clear c5
                try clear p5
                try clear q5
                try clear hx5
                try clear c6
                try clear c6b0
                try clear c6b1
                try clear p6
                try clear c11
                try clear c12
                try clear c12b0
                try clear c13
                try clear c13b0
                try clear c13b1
                try clear c14
                try clear c14b0
                try clear c14b1
                try clear c16
                try clear c16b0
                try clear c16b1
                try clear c17
                try clear c17b0
                try clear c17b1
                try clear q21
                try clear c22
                try clear c22b0
                try clear c23
                try clear c23b0
                try clear c24
                try clear c24b0
                try clear c27
                try clear c29
                try clear c29b0
                try clear c29b1
                try clear c31
                try clear c35
                try clear hcz18_0
                try clear hcz18_1
                try clear hcz28_0
                try clear hcz28_1
                try clear hcz28_2
                try clear hcz32_0
                try clear hcz32_1
                try clear hcz32_2
                try clear hcz33_0
                try clear hcz33_1
                try clear hcz36_0
                try clear hcz36_1
                try clear hcz36_2
                try clear hcz7_0
                try clear hcz7_1
                try clear hcz9_0
                try clear hcz9_1
                try clear hfz18_0
                try clear hfz18_1
                try clear hfz28_0
                try clear hfz28_1
                try clear hfz28_2
                try clear hfz32_0
                try clear hfz32_1
                try clear hfz32_2
                try clear hfz33_0
                try clear hfz33_1
                try clear hfz36_0
                try clear hfz36_1
                try clear hfz36_2
                try clear hfz7_0
                try clear hfz7_1
                try clear hfz9_0
                try clear hfz9_1
                try clear hx580_0
                try clear hx580_1
                try clear hx580_2
                try clear p2
                try clear p580
                try clear p6
                try clear q2
                try clear q21
                try clear q580
                obtain ⟨kq,x44_24,rfl,HA,HJ24,HO_5,HO_7,BK568,BK581,HB⟩:=hcut
                cases kq with
                | zero=>exact absurd HA.out (by simp [spec_Truth.j3])
                | succ kj24 =>
                 have H:=HA.out
                 clear HA
                 simp only [spec_Truth.j3] at H
                 by_cases c37:x44_24=true
                 ·subst c37
                  have H1:(spec_Truth.l1 kj24 l1 x5_2 x7_3 (l1.length:Int) x21_2 y573 (y573.length:Int) (wrap64 (x32_3+1)) a0_0 l0_1)=some r:=by rw [if_pos rfl] at H;exact H
                  clear H
                  have H:=H1
                  clear H1
                  have H':=Aside0.mk H
                  clear H
                  go_wp2
                  go_roundg kj24
                  case measure=>have:=HJ2.out;have:=HK2.out;have:=HK3.out;have:=HJ24.out;omega
                  case rel=>exact ⟨(x7_3),(wrap64 (x32_3+1)),(by first|rfl|(simp;done)|(simp [*];done)),H',⟨by have:=HJ2.out;have:=HK2.out;have:=HK3.out;have:=HJ24.out;omega⟩,⟨by exact HO_5.out⟩,⟨by exact HO_7.out⟩,⟨by exact BK568.out⟩,⟨by exact HB.out⟩⟩
                 replace c37:=Bool.eq_false_iff.mpr c37
                 subst c37
                 have H1:(if 0≤((rd_T56 y573 x32_3).f1) then (if ((rd_T56 y573 x32_3).f1)<(l0_1.length:Int) then (if ((rd_T88 l0_1 ((rd_T56 y573 x32_3).f1)).f0) ≥ 0 then (if 0≤((rd_T88 l0_1 ((rd_T56 y573 x32_3).f1)).f0) then (if ((rd_T88 l0_1 ((rd_T56 y573 x32_3).f1)).f0)<(x7_3.length:Int) then ((some (x7_3.set (((rd_T88 l0_1 ((rd_T56 y573 x32_3).f1)).f0):Int).toNat (wrap64 ((rd x7_3 ((rd_T88 l0_1 ((rd_T56 y573 x32_3).f1)).f0)) - ((rd_T56 y573 x32_3).f2))):List Int)).bind fun y586=>(if ((rd_T88 l0_1 ((rd_T56 y573 x32_3).f1)).f1) ≥ 0 then (if 0≤((rd_T88 l0_1 ((rd_T56 y573 x32_3).f1)).f1) then (if ((rd_T88 l0_1 ((rd_T56 y573 x32_3).f1)).f1)<(x7_3.length:Int) then (spec_Truth.l1 kj24 l1 x5_2 (y586.set (((rd_T88 l0_1 ((rd_T56 y573 x32_3).f1)).f1):Int).toNat (wrap64 ((rd y586 ((rd_T88 l0_1 ((rd_T56 y573 x32_3).f1)).f1))+((rd_T56 y573 x32_3).f2)))) (l1.length:Int) x21_2 y573 (y573.length:Int) (wrap64 (x32_3+1)) a0_0 l0_1) else (none)) else (none)) else (spec_Truth.l1 kj24 l1 x5_2 y586 (l1.length:Int) x21_2 y573 (y573.length:Int) (wrap64 (x32_3+1)) a0_0 l0_1))) else (none)) else (none)) else (if ((rd_T88 l0_1 ((rd_T56 y573 x32_3).f1)).f1) ≥ 0 then (if 0≤((rd_T88 l0_1 ((rd_T56 y573 x32_3).f1)).f1) then (if ((rd_T88 l0_1 ((rd_T56 y573 x32_3).f1)).f1)<(x7_3.length:Int) then (spec_Truth.l1 kj24 l1 x5_2 (x7_3.set (((rd_T88 l0_1 ((rd_T56 y573 x32_3).f1)).f1):Int).toNat (wrap64 ((rd x7_3 ((rd_T88 l0_1 ((rd_T56 y573 x32_3).f1)).f1))+((rd_T56 y573 x32_3).f2)))) (l1.length:Int) x21_2 y573 (y573.length:Int) (wrap64 (x32_3+1)) a0_0 l0_1) else (none)) else (none)) else (spec_Truth.l1 kj24 l1 x5_2 x7_3 (l1.length:Int) x21_2 y573 (y573.length:Int) (wrap64 (x32_3+1)) a0_0 l0_1))) else (none)) else (none))=some r:=by rw [if_neg (show ¬ (false=true) by decide)] at H;exact H
                 clear H
                 have H:=H1
                 clear H1
                 by_cases c38:0≤((rd_T56 y573 x32_3).f1)
                 ·rw [if_pos c38] at H
                  have c38b0:decide (0≤((rd_T56 y573 x32_3).f1))=true:=decide_eq_true c38
                  clear c38
                  by_cases c39:((rd_T56 y573 x32_3).f1)<(l0_1.length:Int)
                  ·rw [if_pos c39] at H
                   have c39b0:decide (((rd_T56 y573 x32_3).f1)<(l0_1.length:Int))=true:=decide_eq_true c39
                   clear c39
                   by_cases c40:((rd_T88 l0_1 ((rd_T56 y573 x32_3).f1)).f0) ≥ 0
                   ·rw [if_pos c40] at H
                    have c40b0:decide (0≤((rd_T88 l0_1 ((rd_T56 y573 x32_3).f1)).f0))=true:=decide_eq_true c40
                    clear c40
                    by_cases c41:0≤((rd_T88 l0_1 ((rd_T56 y573 x32_3).f1)).f0)
                    ·rw [if_pos c41] at H
                     have c41b0:decide (0≤((rd_T88 l0_1 ((rd_T56 y573 x32_3).f1)).f0))=true:=decide_eq_true c41
                     clear c41
                     by_cases c42:((rd_T88 l0_1 ((rd_T56 y573 x32_3).f1)).f0)<(x7_3.length:Int)
                     ·rw [if_pos c42] at H
                      have c42b0:decide (((rd_T88 l0_1 ((rd_T56 y573 x32_3).f1)).f0)<(x7_3.length:Int))=true:=decide_eq_true c42
                      clear c42
                      obtain ⟨y586,hy586⟩:∃ y_:List Int,y_=(x7_3.set (((rd_T88 l0_1 ((rd_T56 y573 x32_3).f1)).f0):Int).toNat (wrap64 ((rd x7_3 ((rd_T88 l0_1 ((rd_T56 y573 x32_3).f1)).f0)) - ((rd_T56 y573 x32_3).f2)))):=⟨_,rfl⟩
                      replace H:(if ((rd_T88 l0_1 ((rd_T56 y573 x32_3).f1)).f1) ≥ 0 then (if 0≤((rd_T88 l0_1 ((rd_T56 y573 x32_3).f1)).f1) then (if ((rd_T88 l0_1 ((rd_T56 y573 x32_3).f1)).f1)<(x7_3.length:Int) then (spec_Truth.l1 kj24 l1 x5_2 (y586.set (((rd_T88 l0_1 ((rd_T56 y573 x32_3).f1)).f1):Int).toNat (wrap64 ((rd y586 ((rd_T88 l0_1 ((rd_T56 y573 x32_3).f1)).f1))+((rd_T56 y573 x32_3).f2)))) (l1.length:Int) x21_2 y573 (y573.length:Int) (wrap64 (x32_3+1)) a0_0 l0_1) else (none)) else (none)) else (spec_Truth.l1 kj24 l1 x5_2 y586 (l1.length:Int) x21_2 y573 (y573.length:Int) (wrap64 (x32_3+1)) a0_0 l0_1))=some r:=by first|(rw [hy586];with_reducible exact H)|(have H2_:=(Option.bind_some _ _).symm.trans H;rw [hy586];with_reducible exact H2_)|(have H2_:=(Option.bind_some _ _).symm.trans H;with_reducible exact H2_)|with_reducible exact H|(rw [hy586];exact H)|exact H
                      have Ny586:=Aside0.mk hy586
                      clear hy586
                      by_cases c44:((rd_T88 l0_1 ((rd_T56 y573 x32_3).f1)).f1) ≥ 0
                      ·rw [if_pos c44] at H
                       have c44b0:decide (0≤((rd_T88 l0_1 ((rd_T56 y573 x32_3).f1)).f1))=true:=decide_eq_true c44
                       clear c44
                       by_cases c45:0≤((rd_T88 l0_1 ((rd_T56 y573 x32_3).f1)).f1)
                       ·rw [if_pos c45] at H
                        have c45b0:decide (0≤((rd_T88 l0_1 ((rd_T56 y573 x32_3).f1)).f1))=true:=decide_eq_true c45
                        clear c45
                        by_cases c46:((rd_T88 l0_1 ((rd_T56 y573 x32_3).f1)).f1)<(x7_3.length:Int)
                        ·rw [if_pos c46] at H
                         have c46b0:decide (((rd_T88 l0_1 ((rd_T56 y573 x32_3).f1)).f1)<(x7_3.length:Int))=true:=decide_eq_true c46
                         clear c46
                         obtain ⟨y588,hy588⟩:∃ y_:List Int,y_=(y586.set (((rd_T88 l0_1 ((rd_T56 y573 x32_3).f1)).f1):Int).toNat (wrap64 ((rd y586 ((rd_T88 l0_1 ((rd_T56 y573 x32_3).f1)).f1))+((rd_T56 y573 x32_3).f2)))):=⟨_,rfl⟩
                         replace H:(spec_Truth.l1 kj24 l1 x5_2 y588 (l1.length:Int) x21_2 y573 (y573.length:Int) (wrap64 (x32_3+1)) a0_0 l0_1)=some r:=by first|(rw [hy588];with_reducible exact H)|(have H2_:=(Option.bind_some _ _).symm.trans H;rw [hy588];with_reducible exact H2_)|(have H2_:=(Option.bind_some _ _).symm.trans H;with_reducible exact H2_)|with_reducible exact H|(rw [hy588];exact H)|exact H
                         have Ny588:=Aside0.mk hy588
                         clear hy588
                         have H':=Aside0.mk H
                         clear H
                         have hnb48:=NB568_581.out
                         have hnc48:=NB581_568.out
                         have hcz49_0:wc.cell? ⟨gb568,0,none⟩=some (.int .i64 a0_0):=(blk_cell BK568.out 0).trans rfl
                         have hcz49_1:wc.cell? ⟨gb568,1,none⟩=some (.slice A0_1 l0_1.length c0_1):=(blk_cell BK568.out 1).trans rfl
                         have hfz49_0:=blk_frozen BK568.out 0
                         have hfz49_1:=blk_frozen BK568.out 1
                         have hcz50_0:wc.cell? ⟨gb581,0,none⟩=some (.int .i64 ((rd_T56 y573 x32_3).f0)):=(blk_cell BK581.out 0).trans rfl
                         have hcz50_1:wc.cell? ⟨gb581,1,none⟩=some (.int .i64 ((rd_T56 y573 x32_3).f1)):=(blk_cell BK581.out 1).trans rfl
                         have hcz50_2:wc.cell? ⟨gb581,2,none⟩=some (.int .i64 ((rd_T56 y573 x32_3).f2)):=(blk_cell BK581.out 2).trans rfl
                         have hfz50_0:=blk_frozen BK581.out 0
                         have hfz50_1:=blk_frozen BK581.out 1
                         have hfz50_2:=blk_frozen BK581.out 2
                         have p583:0≤(((rd_T56 y573 x32_3).f1):Int):=of_decide_eq_true (by first|(with_reducible assumption)|assumption)
                         have q583:((rd_T56 y573 x32_3).f1)<(l0_1.length:Int):=of_decide_eq_true (by first|(with_reducible assumption)|assumption)
                         obtain ⟨ad583,e583,hx583_0,hx583_1⟩:=at_T88 HR0_1.out ((rd_T56 y573 x32_3).f1) p583 q583
                         cases e583
                         replace hx583_0:=(HB.out.cell (World.block_lt_of_cell? w _ hx583_0)).trans hx583_0
                         replace hx583_1:=(HB.out.cell (World.block_lt_of_cell? w _ hx583_1)).trans hx583_1
                         replace p583:=eq_true p583
                         replace q583:=eq_true q583
                         try go_wp2_with (first|((with_reducible refine gate_dst (N:=10) rfl ?_);(try (refine gate_guard (by rfl) ?_;dsimp only));refine box_event ?hg (N:=10) ?hd (cs:=#[.int .i64 0,.int .i64 0]) (t:=88) ?hr ?_;(case hd=>rfl);(case hg=>rfl);(case hr=>first|(go_simp;done)|(go_simp;rfl));intro gb584 hg w51 hbox hb;have n0_:=Aside0.mk (Kd.S_below (by exact HO_5.out) hb);have n1_:=Aside0.mk (Kd.R_below (by exact HO_7.out) hb);have n2_:=Aside0.mk (blk_below (g:=gb568) (o:=.cells #[.int .i64 a0_0,.slice (some ad583) l0_1.length c0_1] 30 (0,0)) (by exact BK568.out) hb);have n3_:=Aside0.mk (blk_below (g:=gb581) (o:=.cells #[.int .i64 ((rd_T56 y573 x32_3).f0),.int .i64 ((rd_T56 y573 x32_3).f1),.int .i64 ((rd_T56 y573 x32_3).f2)] 56 (0,0)) (by exact BK581.out) hb);have n4_:=Aside0.mk (below_step (by exact HB.out) hb);have n5_:=Aside0.mk (hbox);have n6_:=Aside0.mk ((by rw [hg];exact (below_size (by exact HB.out)):w.heap.size≤gb584));have n7_:=Aside0.mk ((by rw [hg];exact (below_size (by exact HB.out)):w.heap.size≤gb584));have n8_:=Aside0.mk ((by rw [hg];exact Nat.ne_of_lt (blk_lt (g:=gb568) (o:=.cells #[.int .i64 a0_0,.slice (some ad583) l0_1.length c0_1] 30 (0,0)) (by exact BK568.out)):gb568 ≠ gb584));have n9_:=Aside0.mk ((by rw [hg];exact Nat.ne_of_gt (blk_lt (g:=gb568) (o:=.cells #[.int .i64 a0_0,.slice (some ad583) l0_1.length c0_1] 30 (0,0)) (by exact BK568.out)):gb584 ≠ gb568));have n10_:=Aside0.mk ((by rw [hg];exact Nat.ne_of_lt (blk_lt (g:=gb581) (o:=.cells #[.int .i64 ((rd_T56 y573 x32_3).f0),.int .i64 ((rd_T56 y573 x32_3).f1),.int .i64 ((rd_T56 y573 x32_3).f2)] 56 (0,0)) (by exact BK581.out)):gb581 ≠ gb584));have n11_:=Aside0.mk ((by rw [hg];exact Nat.ne_of_gt (blk_lt (g:=gb581) (o:=.cells #[.int .i64 ((rd_T56 y573 x32_3).f0),.int .i64 ((rd_T56 y573 x32_3).f1),.int .i64 ((rd_T56 y573 x32_3).f2)] 56 (0,0)) (by exact BK581.out)):gb584 ≠ gb581));clear HO_5;clear HO_7;clear BK568;clear BK581;clear HB;have HO_5:=n0_;have HO_7:=n1_;have BK568:=n2_;have BK581:=n3_;have HB:=n4_;have BK584:=n5_;have GW584:=n6_;have GE584:=n7_;have NB568_584:=n8_;have NB584_568:=n9_;have NB581_584:=n10_;have NB584_581:=n11_;clear n0_ n1_ n2_ n3_ n4_ n5_ n6_ n7_ n8_ n9_ n10_ n11_;clear hb hbox hg;have hnb52:=NB584_568.out;have hnc52:=NB568_584.out;have hnb53:=NB584_581.out;have hnc53:=NB581_584.out;have hcz54_0:w51.cell? ⟨gb584,0,none⟩=some (.int .i64 0):=(blk_cell BK584.out 0).trans rfl;have hcz54_1:w51.cell? ⟨gb584,1,none⟩=some (.int .i64 0):=(blk_cell BK584.out 1).trans rfl;have hfz54_0:=blk_frozen BK584.out 0;have hfz54_1:=blk_frozen BK584.out 1))
                         have n0_:Aside0 (Kd.S (Kd.slice 3 (Kd.int .i64)) 59 ((w51.setCell ⟨gb584,0,none⟩ (.int .i64 ((rd_T88 l0_1 ((rd_T56 y573 x32_3).f1)).f0))).setCell ⟨gb584,1,none⟩ (.int .i64 ((rd_T88 l0_1 ((rd_T56 y573 x32_3).f1)).f1))) w.heap.size (fun k_=>some k_ ≠ (v571:Value).ownBlock) u5 x5_2):=⟨by exact Kd.S_mono (Kd.S_far (p:=⟨gb584,1,none⟩) (Kd.S_far (p:=⟨gb584,0,none⟩) (Kd.S_types HO_5.out BK584.out (by decide)) (fun _ hk=>hk.2) (.int .i64 ((rd_T88 l0_1 ((rd_T56 y573 x32_3).f1)).f0))) (fun _ hk=>hk.2) (.int .i64 ((rd_T88 l0_1 ((rd_T56 y573 x32_3).f1)).f1))) (fun _ hk=>hk.1)⟩
                         have n1_:Aside0 (Kd.R (Kd.int .i64) 3 ((w51.setCell ⟨gb584,0,none⟩ (.int .i64 ((rd_T88 l0_1 ((rd_T56 y573 x32_3).f1)).f0))).setCell ⟨gb584,1,none⟩ (.int .i64 ((rd_T88 l0_1 ((rd_T56 y573 x32_3).f1)).f1))) w.heap.size (fun _=>True) v571 x7_3):=⟨by exact Kd.R_mono (Kd.R_far (p:=⟨gb584,1,none⟩) (Kd.R_far (p:=⟨gb584,0,none⟩) (Kd.R_types HO_7.out BK584.out (by decide)) (fun _ hk=>hk.2) (.int .i64 ((rd_T88 l0_1 ((rd_T56 y573 x32_3).f1)).f0))) (fun _ hk=>hk.2) (.int .i64 ((rd_T88 l0_1 ((rd_T56 y573 x32_3).f1)).f1))) (fun _ hk=>trivial)⟩
                         have n2_:Aside0 (((w51.setCell ⟨gb584,0,none⟩ (.int .i64 ((rd_T88 l0_1 ((rd_T56 y573 x32_3).f1)).f0))).setCell ⟨gb584,1,none⟩ (.int .i64 ((rd_T88 l0_1 ((rd_T56 y573 x32_3).f1)).f1))).heap[gb568]?=some (.cells #[.int .i64 a0_0,.slice (some ad583) l0_1.length c0_1] 30 (0,0))):=⟨by refine blk_far ?_ NB568_584.out _;refine blk_far ?_ NB568_584.out _;exact BK568.out⟩
                         have n3_:Aside0 (((w51.setCell ⟨gb584,0,none⟩ (.int .i64 ((rd_T88 l0_1 ((rd_T56 y573 x32_3).f1)).f0))).setCell ⟨gb584,1,none⟩ (.int .i64 ((rd_T88 l0_1 ((rd_T56 y573 x32_3).f1)).f1))).heap[gb581]?=some (.cells #[.int .i64 ((rd_T56 y573 x32_3).f0),.int .i64 ((rd_T56 y573 x32_3).f1),.int .i64 ((rd_T56 y573 x32_3).f2)] 56 (0,0))):=⟨by refine blk_far ?_ NB581_584.out _;refine blk_far ?_ NB581_584.out _;exact BK581.out⟩
                         have n4_:Aside0 (((w51.setCell ⟨gb584,0,none⟩ (.int .i64 ((rd_T88 l0_1 ((rd_T56 y573 x32_3).f1)).f0))).setCell ⟨gb584,1,none⟩ (.int .i64 ((rd_T88 l0_1 ((rd_T56 y573 x32_3).f1)).f1))).heap[gb584]?=some (.cells #[.int .i64 ((rd_T88 l0_1 ((rd_T56 y573 x32_3).f1)).f0),.int .i64 ((rd_T88 l0_1 ((rd_T56 y573 x32_3).f1)).f1)] 88 (0,0))):=⟨by refine blk_put (cs:=#[.int .i64 ((rd_T88 l0_1 ((rd_T56 y573 x32_3).f1)).f0),.int .i64 0]) ?_ 1 _ rfl;refine blk_put (cs:=#[.int .i64 0,.int .i64 0]) ?_ 0 _ rfl;exact BK584.out⟩
                         have n5_:Aside0 (Below w.heap.size w ((w51.setCell ⟨gb584,0,none⟩ (.int .i64 ((rd_T88 l0_1 ((rd_T56 y573 x32_3).f1)).f0))).setCell ⟨gb584,1,none⟩ (.int .i64 ((rd_T88 l0_1 ((rd_T56 y573 x32_3).f1)).f1)))):=⟨by repeat (first|(with_reducible first|exact HB.out|apply below_alloc|apply pw_below_drewN|apply below_drew1|refine below_set ?_ GE568.out|refine below_set ?_ GE581.out|refine below_set ?_ GE584.out)|exact HB.out)⟩
                         (try clear HO_5)
                         (try clear HO_7)
                         (try clear BK568)
                         (try clear BK581)
                         (try clear BK584)
                         (try clear HB)
                         generalize ((w51.setCell ⟨gb584,0,none⟩ (.int .i64 ((rd_T88 l0_1 ((rd_T56 y573 x32_3).f1)).f0))).setCell ⟨gb584,1,none⟩ (.int .i64 ((rd_T88 l0_1 ((rd_T56 y573 x32_3).f1)).f1)))=w55 at n0_ n1_ n2_ n3_ n4_ n5_ ⊢
                         have HO_5:=n0_
                         have HO_7:=n1_
                         have BK568:=n2_
                         have BK581:=n3_
                         have BK584:=n4_
                         have HB:=n5_
                         clear n0_ n1_ n2_ n3_ n4_ n5_
                         have n0_:=Aside0.mk (Kd.S_drew HO_5.out)
                         have n1_:=Aside0.mk (Kd.R_drew HO_7.out)
                         have n2_:=Aside0.mk (blk_drew BK568.out)
                         have n3_:=Aside0.mk (blk_drew BK581.out)
                         have n4_:=Aside0.mk (blk_drew BK584.out)
                         have n5_:=Aside0.mk (below_drew1 HB.out)
                         clear HO_5
                         clear HO_7
                         clear BK568
                         clear BK581
                         clear BK584
                         clear HB
                         have HO_5:=n0_
                         have HO_7:=n1_
                         have BK568:=n2_
                         have BK581:=n3_
                         have BK584:=n4_
                         have HB:=n5_
                         clear n0_ n1_ n2_ n3_ n4_ n5_
                         obtain ⟨Ao57,co57,eo57⟩:=Kd.R_slice HO_7.out
                         (first|subst eo57|(injection eo57 with f1_ f2_ f3_;have f4_:=f1_.symm;have f5_:=f3_.symm;clear f1_ f2_ f3_;subst f4_;subst f5_))
                         have p585:0≤(((rd_T88 l0_1 ((rd_T56 y573 x32_3).f1)).f0):Int):=of_decide_eq_true (by first|(with_reducible assumption)|assumption)
                         have q585:((rd_T88 l0_1 ((rd_T56 y573 x32_3).f1)).f0)<(x7_3.length:Int):=of_decide_eq_true (by first|(with_reducible assumption)|assumption)
                         obtain ⟨ad585,e585,hx585_0⟩:=Kd.at_int (Kd.R_reads' HO_7.out).2.2 ((rd_T88 l0_1 ((rd_T56 y573 x32_3).f1)).f0) p585 q585
                         cases e585
                         replace p585:=eq_true p585
                         replace q585:=eq_true q585
                         have p43:0≤(((rd_T88 l0_1 ((rd_T56 y573 x32_3).f1)).f0):Int):=of_decide_eq_true (by first|(with_reducible assumption)|assumption)
                         have q43:(((rd_T88 l0_1 ((rd_T56 y573 x32_3).f1)).f0):Int)<((x7_3.length:Int):Int):=of_decide_eq_true (by first|(with_reducible assumption)|assumption)
                         obtain ⟨go43,co43,eo43,gb43,gl43,cl43,HG43⟩:=Kd.R_form HO_7.out (by omega)
                         (first|cases eo43|(injection eo43 with ea_ en_ ec_;(first|subst ea_|(injection ea_ with ea_;subst ea_));subst ec_;clear en_))
                         have GB43:=Aside0.mk gb43
                         have GG43:=Aside0.mk HG43
                         clear gb43 gl43 HG43
                         (first|simp only [add_plain] at hx585_0|skip)
                         obtain ⟨hx43_0,hf43_0⟩:=Kd.R_celln 0 HO_7.out (((rd_T88 l0_1 ((rd_T56 y573 x32_3).f1)).f0):Int) p43 q43
                         replace p43:=eq_true p43
                         replace q43:=eq_true q43
                         have HP58:=Kd.R_putn HO_7.out (((rd_T88 l0_1 ((rd_T56 y573 x32_3).f1)).f0):Int) (wrap64 ((rd x7_3 ((rd_T88 l0_1 ((rd_T56 y573 x32_3).f1)).f0)) - ((rd_T56 y573 x32_3).f2)))
                         rw [← Ny586.out] at HP58
                         have HQ58:=Aside0.mk HP58
                         clear HP58
                         refine start_ (n:=10) (S:=fun w'=>w'.cell? ⟨gb584,0,none⟩=some (.int .i64 ((rd_T88 l0_1 ((rd_T56 y573 x32_3).f1)).f0))∧w'.cell? ⟨gb584,1,none⟩=some (.int .i64 ((rd_T88 l0_1 ((rd_T56 y573 x32_3).f1)).f1))∧w'.cell? ⟨gb581,0,none⟩=some (.int .i64 ((rd_T56 y573 x32_3).f0))∧w'.cell? ⟨gb581,1,none⟩=some (.int .i64 ((rd_T56 y573 x32_3).f1))∧w'.cell? ⟨gb581,2,none⟩=some (.int .i64 ((rd_T56 y573 x32_3).f2))∧w'.cell? ⟨go43,(((rd_T88 l0_1 ((rd_T56 y573 x32_3).f1)).f0)).toNat,none⟩=some (.int .i64 (rd x7_3 ((rd_T88 l0_1 ((rd_T56 y573 x32_3).f1)).f0)))) (ds:=[9]) #[false,false,false,false,false,false,false,false,false,false] (by kernel_rfl) rfl rfl ⟨(blk_cell BK584.out 0).trans rfl,(blk_cell BK584.out 1).trans rfl,(blk_cell BK581.out 0).trans rfl,(blk_cell BK581.out 1).trans rfl,(blk_cell BK581.out 2).trans rfl,hx585_0⟩ (fun hHeld=>?_);refine with_tabW spec_Truth.tab14 spec_Truth.bits14 (fun HT_ HW_=>?_)
                         generalize w55.drew=w56 at HO_5 HO_7 BK568 BK581 BK584 HB GG43 HQ58 hf43_0 hx43_0 hx585_0 hHeld ⊢
                         refine pure_ (i:=0) (N:=some 54) (v:=?_) (a':=?_) #[true,false,false,false,false,false,false,false,false,false] rfl rfl (any_of HT_.out (by kernel_rfl)) (fun _ _ _ h=>h) (Or.inl ⟨by rfl,?_⟩) ?_ ?_
                         rotate_left
                         ·intro w'
                          go_simp
                          with_reducible rfl
                         rotate_left
                         ·simp only [Act.put,List.setIfInBounds_toArray,List.set_cons_zero,List.set_cons_succ,i64_w,i32_w]
                          rfl
                         refine pure_ (i:=1) (N:=some 55) (v:=?_) (a':=?_) #[true,true,false,false,false,false,false,false,false,false] rfl rfl (any_of HT_.out (by kernel_rfl)) (fun _ _ _ h=>h) (Or.inl ⟨by rfl,?_⟩) ?_ ?_
                         rotate_left
                         ·intro w'
                          go_simp
                          with_reducible rfl
                         rotate_left
                         ·simp only [Act.put,List.setIfInBounds_toArray,List.set_cons_zero,List.set_cons_succ,i64_w,i32_w]
                          rfl
                         refine pure_ (i:=5) (N:=some 59) (v:=?_) (a':=?_) #[true,true,false,false,false,true,false,false,false,false] rfl rfl (any_of HT_.out (by kernel_rfl)) (fun _ _ _ h=>h) (Or.inl ⟨by rfl,?_⟩) ?_ ?_
                         rotate_left
                         ·intro w'
                          go_simp
                          with_reducible rfl
                         rotate_left
                         ·simp only [Act.put,List.setIfInBounds_toArray,List.set_cons_zero,List.set_cons_succ,i64_w,i32_w]
                          rfl
                         refine take_ (i:=2) (N:=some 56) (v:=?_) (a':=?_) #[true,true,true,false,false,true,false,false,false,false] rfl rfl (take_ofW HT_.out HW_.out (by kernel_rfl)) (fun _ _ _ h=>h) (Or.inl ⟨by rfl,?_⟩) hHeld ?_ ?_
                         rotate_left
                         ·rintro w' ⟨s0,s1,s2,s3,s4,s5⟩
                          go_simp
                          with_reducible rfl
                         rotate_left
                         ·simp only [Act.put,List.setIfInBounds_toArray,List.set_cons_zero,List.set_cons_succ,i64_w,i32_w]
                          rfl
                         refine pure_ (i:=3) (N:=some 57) (v:=?_) (a':=?_) #[true,true,true,true,false,true,false,false,false,false] rfl rfl (any_of HT_.out (by kernel_rfl)) (fun _ _ _ h=>h) (Or.inl ⟨by rfl,?_⟩) ?_ ?_
                         rotate_left
                         ·intro w'
                          go_simp
                          with_reducible rfl
                         rotate_left
                         ·simp only [Act.put,List.setIfInBounds_toArray,List.set_cons_zero,List.set_cons_succ,i64_w,i32_w]
                          rfl
                         refine take_ (i:=4) (N:=some 58) (v:=?_) (a':=?_) #[true,true,true,true,true,true,false,false,false,false] rfl rfl (take_ofW HT_.out HW_.out (by kernel_rfl)) (fun _ _ _ h=>h) (Or.inl ⟨by rfl,?_⟩) hHeld ?_ ?_
                         rotate_left
                         ·rintro w' ⟨s0,s1,s2,s3,s4,s5⟩
                          go_simp
                          with_reducible rfl
                         rotate_left
                         ·simp only [Act.put,List.setIfInBounds_toArray,List.set_cons_zero,List.set_cons_succ,i64_w,i32_w]
                          rfl
                         refine take_ (i:=6) (N:=some 60) (v:=?_) (a':=?_) #[true,true,true,true,true,true,true,false,false,false] rfl rfl (take_ofW HT_.out HW_.out (by kernel_rfl)) (fun _ _ _ h=>h) (Or.inl ⟨by rfl,?_⟩) hHeld ?_ ?_
                         rotate_left
                         ·rintro w' ⟨s0,s1,s2,s3,s4,s5⟩
                          go_simp
                          with_reducible rfl
                         rotate_left
                         ·simp only [Act.put,List.setIfInBounds_toArray,List.set_cons_zero,List.set_cons_succ,i64_w,i32_w]
                          rfl
                         refine pure_ (i:=7) (N:=some 61) (v:=?_) (a':=?_) #[true,true,true,true,true,true,true,true,false,false] rfl rfl (any_of HT_.out (by kernel_rfl)) (fun _ _ _ h=>h) (Or.inl ⟨by rfl,?_⟩) ?_ ?_
                         rotate_left
                         ·intro w'
                          go_simp
                          with_reducible rfl
                         rotate_left
                         ·simp only [Act.put,List.setIfInBounds_toArray,List.set_cons_zero,List.set_cons_succ,i64_w,i32_w]
                          rfl
                         refine pure_ (i:=8) (N:=some 62) (v:=?_) (a':=?_) #[true,true,true,true,true,true,true,true,true,false] rfl rfl (any_of HT_.out (by kernel_rfl)) (fun _ _ _ h=>h) (Or.inl ⟨by rfl,?_⟩) ?_ ?_
                         rotate_left
                         ·intro w'
                          go_simp
                          with_reducible rfl
                         rotate_left
                         ·simp only [Act.put,List.setIfInBounds_toArray,List.set_cons_zero,List.set_cons_succ,i64_w,i32_w]
                          rfl
                         refine last_ (i:=9) (N:=none) #[true,true,true,true,true,true,true,true,true,true] rfl rfl (one_of HT_.out (by kernel_rfl)) (by decide) (fun K hK=>?_)
                         refine skip_ (w1:=?_) (by rfl) rfl ?_ ?_
                         rotate_left
                         ·go_simp
                          rfl
                         refine hK.out _ _ ?_
                         clear hK K
                         refine done_ (done_of HT_.out (by kernel_rfl)) ?_
                         have hnx_:gb584 ≠ go43:=(by have h_:=Kd.R_ne HO_7.out BK584.out (by decide);intro e_;exact h_ (by rw [e_];rfl))
                         have hny_:go43 ≠ gb584:=fun e_=>hnx_ e_.symm
                         have hcz59_0:w56.cell? ⟨gb584,0,none⟩=some (.int .i64 ((rd_T88 l0_1 ((rd_T56 y573 x32_3).f1)).f0)):=(blk_cell BK584.out 0).trans rfl
                         have hcz59_1:w56.cell? ⟨gb584,1,none⟩=some (.int .i64 ((rd_T88 l0_1 ((rd_T56 y573 x32_3).f1)).f1)):=(blk_cell BK584.out 1).trans rfl
                         have hfz59_0:=blk_frozen BK584.out 0
                         have hfz59_1:=blk_frozen BK584.out 1
                         try go_wp2
                         have n0_:Aside0 (Kd.S (Kd.slice 3 (Kd.int .i64)) 59 (w56.setCell ⟨go43,(((rd_T88 l0_1 ((rd_T56 y573 x32_3).f1)).f0):Int).toNat,none⟩ (.int .i64 (wrap64 ((rd x7_3 ((rd_T88 l0_1 ((rd_T56 y573 x32_3).f1)).f0)) - ((rd_T56 y573 x32_3).f2))))) w.heap.size (fun k_=>some k_ ≠ (.slice (some ⟨go43,0,none⟩) x7_3.length co57:Value).ownBlock) u5 x5_2):=⟨by exact Kd.S_mono (Kd.S_far (p:=⟨go43,(((rd_T88 l0_1 ((rd_T56 y573 x32_3).f1)).f0):Int).toNat,none⟩) (Kd.S_mono HO_5.out (fun k_ hk=>(⟨hk,fun e_=>hk (by rw [e_];rfl)⟩:_∧k_ ≠ go43))) (fun _ hk=>hk.2) (.int .i64 (wrap64 ((rd x7_3 ((rd_T88 l0_1 ((rd_T56 y573 x32_3).f1)).f0)) - ((rd_T56 y573 x32_3).f2))))) (fun _ hk=>hk.1)⟩
                         have n1_:Aside0 (Kd.R (Kd.int .i64) 3 (w56.setCell ⟨go43,(((rd_T88 l0_1 ((rd_T56 y573 x32_3).f1)).f0):Int).toNat,none⟩ (.int .i64 (wrap64 ((rd x7_3 ((rd_T88 l0_1 ((rd_T56 y573 x32_3).f1)).f0)) - ((rd_T56 y573 x32_3).f2))))) w.heap.size (fun _=>True) (.slice (some ⟨go43,0,none⟩) x7_3.length co57) y586):=⟨by exact HQ58.out⟩
                         have n2_:Aside0 ((w56.setCell ⟨go43,(((rd_T88 l0_1 ((rd_T56 y573 x32_3).f1)).f0):Int).toNat,none⟩ (.int .i64 (wrap64 ((rd x7_3 ((rd_T88 l0_1 ((rd_T56 y573 x32_3).f1)).f0)) - ((rd_T56 y573 x32_3).f2))))).heap[gb568]?=some (.cells #[.int .i64 a0_0,.slice (some ad583) l0_1.length c0_1] 30 (0,0))):=⟨by refine blk_far ?_ (by have h_:=Kd.R_ne HO_7.out BK568.out (by decide);intro e_;exact h_ (by rw [e_];rfl)) _;exact BK568.out⟩
                         have n3_:Aside0 ((w56.setCell ⟨go43,(((rd_T88 l0_1 ((rd_T56 y573 x32_3).f1)).f0):Int).toNat,none⟩ (.int .i64 (wrap64 ((rd x7_3 ((rd_T88 l0_1 ((rd_T56 y573 x32_3).f1)).f0)) - ((rd_T56 y573 x32_3).f2))))).heap[gb581]?=some (.cells #[.int .i64 ((rd_T56 y573 x32_3).f0),.int .i64 ((rd_T56 y573 x32_3).f1),.int .i64 ((rd_T56 y573 x32_3).f2)] 56 (0,0))):=⟨by refine blk_far ?_ (by have h_:=Kd.R_ne HO_7.out BK581.out (by decide);intro e_;exact h_ (by rw [e_];rfl)) _;exact BK581.out⟩
                         have n4_:Aside0 ((w56.setCell ⟨go43,(((rd_T88 l0_1 ((rd_T56 y573 x32_3).f1)).f0):Int).toNat,none⟩ (.int .i64 (wrap64 ((rd x7_3 ((rd_T88 l0_1 ((rd_T56 y573 x32_3).f1)).f0)) - ((rd_T56 y573 x32_3).f2))))).heap[gb584]?=some (.cells #[.int .i64 ((rd_T88 l0_1 ((rd_T56 y573 x32_3).f1)).f0),.int .i64 ((rd_T88 l0_1 ((rd_T56 y573 x32_3).f1)).f1)] 88 (0,0))):=⟨by refine blk_far ?_ (by have h_:=Kd.R_ne HO_7.out BK584.out (by decide);intro e_;exact h_ (by rw [e_];rfl)) _;exact BK584.out⟩
                         have n5_:Aside0 (Below w.heap.size w (w56.setCell ⟨go43,(((rd_T88 l0_1 ((rd_T56 y573 x32_3).f1)).f0):Int).toNat,none⟩ (.int .i64 (wrap64 ((rd x7_3 ((rd_T88 l0_1 ((rd_T56 y573 x32_3).f1)).f0)) - ((rd_T56 y573 x32_3).f2)))))):=⟨by repeat (first|(with_reducible first|exact HB.out|apply below_alloc|apply pw_below_drewN|apply below_drew1|refine below_set ?_ GB43.out|refine below_set ?_ GE568.out|refine below_set ?_ GE581.out|refine below_set ?_ GE584.out)|exact HB.out)⟩
                         (try clear HO_5)
                         (try clear HO_7)
                         (try clear BK568)
                         (try clear BK581)
                         (try clear BK584)
                         (try clear HB)
                         generalize (w56.setCell ⟨go43,(((rd_T88 l0_1 ((rd_T56 y573 x32_3).f1)).f0):Int).toNat,none⟩ (.int .i64 (wrap64 ((rd x7_3 ((rd_T88 l0_1 ((rd_T56 y573 x32_3).f1)).f0)) - ((rd_T56 y573 x32_3).f2)))))=w60 at n0_ n1_ n2_ n3_ n4_ n5_ ⊢
                         have HO_5:=n0_
                         have HO_7:=n1_
                         have BK568:=n2_
                         have BK581:=n3_
                         have BK584:=n4_
                         have HB:=n5_
                         clear n0_ n1_ n2_ n3_ n4_ n5_
                         have n0_:=Aside0.mk (Kd.S_drew HO_5.out)
                         have n1_:=Aside0.mk (Kd.R_drew HO_7.out)
                         have n2_:=Aside0.mk (blk_drew BK568.out)
                         have n3_:=Aside0.mk (blk_drew BK581.out)
                         have n4_:=Aside0.mk (blk_drew BK584.out)
                         have n5_:=Aside0.mk (below_drew1 HB.out)
                         clear HO_5
                         clear HO_7
                         clear BK568
                         clear BK581
                         clear BK584
                         clear HB
                         have HO_5:=n0_
                         have HO_7:=n1_
                         have BK568:=n2_
                         have BK581:=n3_
                         have BK584:=n4_
                         have HB:=n5_
                         clear n0_ n1_ n2_ n3_ n4_ n5_
                         have p587:0≤(((rd_T88 l0_1 ((rd_T56 y573 x32_3).f1)).f1):Int):=of_decide_eq_true (by first|(with_reducible assumption)|assumption)
                         have q587:((rd_T88 l0_1 ((rd_T56 y573 x32_3).f1)).f1)<(y586.length:Int):=(by have h_:(((rd_T88 l0_1 ((rd_T56 y573 x32_3).f1)).f1):Int)<((x7_3.length:Int):Int):=of_decide_eq_true (by first|(with_reducible assumption)|assumption);first|(have e_:=(Kd.R_reads' HO_7.out).1;omega)|simpa only [Ny586.out,List.length_set] using h_)
                         have ql587:((((rd_T88 l0_1 ((rd_T56 y573 x32_3).f1)).f1):Int)<((x7_3.length:Int):Int))=True:=eq_true (of_decide_eq_true (by first|(with_reducible assumption)|assumption))
                         obtain ⟨ad587,e587,hx587_0⟩:=Kd.at_int (Kd.R_reads' HO_7.out).2.2 ((rd_T88 l0_1 ((rd_T56 y573 x32_3).f1)).f1) p587 q587
                         obtain rfl:(⟨go43,0,none⟩:Addr)=ad587:=(by injection e587)
                         (first|simp only [add_plain] at hx587_0|simp only [add_at] at hx587_0|simp only [Addr.add,Nat.zero_add] at hx587_0|skip)
                         replace p587:=eq_true p587
                         replace q587:=eq_true q587
                         have p47:0≤(((rd_T88 l0_1 ((rd_T56 y573 x32_3).f1)).f1):Int):=of_decide_eq_true (by first|(with_reducible assumption)|assumption)
                         have q47:(((rd_T88 l0_1 ((rd_T56 y573 x32_3).f1)).f1):Int)<((x7_3.length:Int):Int):=of_decide_eq_true (by first|(with_reducible assumption)|assumption)
                         obtain ⟨hx47_0,hf47_0⟩:=Kd.R_celln 0 HO_7.out (((rd_T88 l0_1 ((rd_T56 y573 x32_3).f1)).f1):Int) p47 q47
                         replace p47:=eq_true p47
                         replace q47:=eq_true q47
                         have HP62:=Kd.R_putn HO_7.out (((rd_T88 l0_1 ((rd_T56 y573 x32_3).f1)).f1):Int) (wrap64 ((rd y586 ((rd_T88 l0_1 ((rd_T56 y573 x32_3).f1)).f1))+((rd_T56 y573 x32_3).f2)))
                         rw [← Ny588.out] at HP62
                         have HQ62:=Aside0.mk HP62
                         clear HP62
                         refine start_ (n:=10) (S:=fun w'=>w'.cell? ⟨gb584,0,none⟩=some (.int .i64 ((rd_T88 l0_1 ((rd_T56 y573 x32_3).f1)).f0))∧w'.cell? ⟨gb584,1,none⟩=some (.int .i64 ((rd_T88 l0_1 ((rd_T56 y573 x32_3).f1)).f1))∧w'.cell? ⟨gb581,0,none⟩=some (.int .i64 ((rd_T56 y573 x32_3).f0))∧w'.cell? ⟨gb581,1,none⟩=some (.int .i64 ((rd_T56 y573 x32_3).f1))∧w'.cell? ⟨gb581,2,none⟩=some (.int .i64 ((rd_T56 y573 x32_3).f2))∧w'.cell? ⟨go43,(((rd_T88 l0_1 ((rd_T56 y573 x32_3).f1)).f1)).toNat,none⟩=some (.int .i64 (rd y586 ((rd_T88 l0_1 ((rd_T56 y573 x32_3).f1)).f1)))) (ds:=[9]) #[false,false,false,false,false,false,false,false,false,false] (by kernel_rfl) rfl rfl ⟨(blk_cell BK584.out 0).trans rfl,(blk_cell BK584.out 1).trans rfl,(blk_cell BK581.out 0).trans rfl,(blk_cell BK581.out 1).trans rfl,(blk_cell BK581.out 2).trans rfl,hx587_0⟩ (fun hHeld=>?_);refine with_tabW spec_Truth.tab16 spec_Truth.bits16 (fun HT_ HW_=>?_)
                         generalize w60.drew=w61 at HO_5 HO_7 BK568 BK581 BK584 HB HQ58 HQ62 hf47_0 hx47_0 hx587_0 hHeld ⊢
                         refine pure_ (i:=0) (N:=some 66) (v:=?_) (a':=?_) #[true,false,false,false,false,false,false,false,false,false] rfl rfl (any_of HT_.out (by kernel_rfl)) (fun _ _ _ h=>h) (Or.inl ⟨by rfl,?_⟩) ?_ ?_
                         rotate_left
                         ·intro w'
                          go_simp
                          with_reducible rfl
                         rotate_left
                         ·simp only [Act.put,List.setIfInBounds_toArray,List.set_cons_zero,List.set_cons_succ,i64_w,i32_w]
                          rfl
                         refine pure_ (i:=1) (N:=some 67) (v:=?_) (a':=?_) #[true,true,false,false,false,false,false,false,false,false] rfl rfl (any_of HT_.out (by kernel_rfl)) (fun _ _ _ h=>h) (Or.inl ⟨by rfl,?_⟩) ?_ ?_
                         rotate_left
                         ·intro w'
                          go_simp
                          with_reducible rfl
                         rotate_left
                         ·simp only [Act.put,List.setIfInBounds_toArray,List.set_cons_zero,List.set_cons_succ,i64_w,i32_w]
                          rfl
                         refine pure_ (i:=5) (N:=some 71) (v:=?_) (a':=?_) #[true,true,false,false,false,true,false,false,false,false] rfl rfl (any_of HT_.out (by kernel_rfl)) (fun _ _ _ h=>h) (Or.inl ⟨by rfl,?_⟩) ?_ ?_
                         rotate_left
                         ·intro w'
                          go_simp
                          with_reducible rfl
                         rotate_left
                         ·simp only [Act.put,List.setIfInBounds_toArray,List.set_cons_zero,List.set_cons_succ,i64_w,i32_w]
                          rfl
                         refine take_ (i:=2) (N:=some 68) (v:=?_) (a':=?_) #[true,true,true,false,false,true,false,false,false,false] rfl rfl (take_ofW HT_.out HW_.out (by kernel_rfl)) (fun _ _ _ h=>h) (Or.inl ⟨by rfl,?_⟩) hHeld ?_ ?_
                         rotate_left
                         ·rintro w' ⟨s0,s1,s2,s3,s4,s5⟩
                          go_simp
                          with_reducible rfl
                         rotate_left
                         ·simp only [Act.put,List.setIfInBounds_toArray,List.set_cons_zero,List.set_cons_succ,i64_w,i32_w]
                          rfl
                         refine pure_ (i:=3) (N:=some 69) (v:=?_) (a':=?_) #[true,true,true,true,false,true,false,false,false,false] rfl rfl (any_of HT_.out (by kernel_rfl)) (fun _ _ _ h=>h) (Or.inl ⟨by rfl,?_⟩) ?_ ?_
                         rotate_left
                         ·intro w'
                          go_simp
                          with_reducible rfl
                         rotate_left
                         ·simp only [Act.put,List.setIfInBounds_toArray,List.set_cons_zero,List.set_cons_succ,i64_w,i32_w]
                          rfl
                         refine take_ (i:=4) (N:=some 70) (v:=?_) (a':=?_) #[true,true,true,true,true,true,false,false,false,false] rfl rfl (take_ofW HT_.out HW_.out (by kernel_rfl)) (fun _ _ _ h=>h) (Or.inl ⟨by rfl,?_⟩) hHeld ?_ ?_
                         rotate_left
                         ·rintro w' ⟨s0,s1,s2,s3,s4,s5⟩
                          go_simp
                          with_reducible rfl
                         rotate_left
                         ·simp only [Act.put,List.setIfInBounds_toArray,List.set_cons_zero,List.set_cons_succ,i64_w,i32_w]
                          rfl
                         refine take_ (i:=6) (N:=some 72) (v:=?_) (a':=?_) #[true,true,true,true,true,true,true,false,false,false] rfl rfl (take_ofW HT_.out HW_.out (by kernel_rfl)) (fun _ _ _ h=>h) (Or.inl ⟨by rfl,?_⟩) hHeld ?_ ?_
                         rotate_left
                         ·rintro w' ⟨s0,s1,s2,s3,s4,s5⟩
                          go_simp
                          with_reducible rfl
                         rotate_left
                         ·simp only [Act.put,List.setIfInBounds_toArray,List.set_cons_zero,List.set_cons_succ,i64_w,i32_w]
                          rfl
                         refine pure_ (i:=7) (N:=some 73) (v:=?_) (a':=?_) #[true,true,true,true,true,true,true,true,false,false] rfl rfl (any_of HT_.out (by kernel_rfl)) (fun _ _ _ h=>h) (Or.inl ⟨by rfl,?_⟩) ?_ ?_
                         rotate_left
                         ·intro w'
                          go_simp
                          with_reducible rfl
                         rotate_left
                         ·simp only [Act.put,List.setIfInBounds_toArray,List.set_cons_zero,List.set_cons_succ,i64_w,i32_w]
                          rfl
                         refine pure_ (i:=8) (N:=some 74) (v:=?_) (a':=?_) #[true,true,true,true,true,true,true,true,true,false] rfl rfl (any_of HT_.out (by kernel_rfl)) (fun _ _ _ h=>h) (Or.inl ⟨by rfl,?_⟩) ?_ ?_
                         rotate_left
                         ·intro w'
                          go_simp
                          with_reducible rfl
                         rotate_left
                         ·simp only [Act.put,List.setIfInBounds_toArray,List.set_cons_zero,List.set_cons_succ,i64_w,i32_w]
                          rfl
                         refine last_ (i:=9) (N:=none) #[true,true,true,true,true,true,true,true,true,true] rfl rfl (one_of HT_.out (by kernel_rfl)) (by decide) (fun K hK=>?_)
                         refine skip_ (w1:=?_) (by rfl) rfl ?_ ?_
                         rotate_left
                         ·go_simp
                          rfl
                         refine hK.out _ _ ?_
                         clear hK K
                         refine done_ (done_of HT_.out (by kernel_rfl)) ?_
                         try go_wp2
                         go_roundg kj24
                         case measure=>have:=HJ2.out;have:=HK2.out;have:=HK3.out;have:=HJ24.out;omega
                         case rel=>exact ⟨(y588),(wrap64 (x32_3+1)),(by first|rfl|(simp;done)|(simp [*];done)),H',⟨by have:=HJ2.out;have:=HK2.out;have:=HK3.out;have:=HJ24.out;omega⟩,⟨by (with_reducible repeat (first|apply Kd.S_alloc|apply Kd.S_drewN|apply Kd.S_drew));exact Kd.S_mono (Kd.S_far (p:=⟨go43,(((rd_T88 l0_1 ((rd_T56 y573 x32_3).f1)).f1):Int).toNat,none⟩) (Kd.S_mono HO_5.out (fun k_ hk=>(⟨hk,fun e_=>hk (by rw [e_];rfl)⟩:_∧k_ ≠ go43))) (fun _ hk=>hk.2) (.int .i64 (wrap64 ((rd y586 ((rd_T88 l0_1 ((rd_T56 y573 x32_3).f1)).f1))+((rd_T56 y573 x32_3).f2))))) (fun _ hk=>hk.1)⟩,⟨by (with_reducible repeat (first|apply Kd.R_alloc|apply Kd.R_drewN|apply Kd.R_drew));exact HQ62.out⟩,⟨by (with_reducible repeat (first|refine blk_drewN ?_ _|refine blk_drew ?_|refine blk_alloc ?_ _));refine blk_far ?_ (by have h_:=Kd.R_ne HO_7.out BK568.out (by decide);intro e_;exact h_ (by rw [e_];rfl)) _;(with_reducible repeat (first|refine blk_drewN ?_ _|refine blk_drew ?_|refine blk_alloc ?_ _));exact BK568.out⟩,⟨by repeat (first|(with_reducible first|exact HB.out|apply below_alloc|apply pw_below_drewN|apply below_drew1|refine below_set ?_ GB43.out|refine below_set ?_ GE568.out|refine below_set ?_ GE581.out|refine below_set ?_ GE584.out)|exact HB.out)⟩⟩
                        rw [if_neg c46] at H
                        exact absurd H (by simp)
                       rw [if_neg c45] at H
                       exact absurd H (by simp)
                      rw [if_neg c44] at H
                      have c44b0:decide (0≤((rd_T88 l0_1 ((rd_T56 y573 x32_3).f1)).f1))=false:=decide_eq_false c44
                      clear c44
                      have H':=Aside0.mk H
                      clear H
                      have hnb63:=NB568_581.out
                      have hnc63:=NB581_568.out
                      have hcz64_0:wc.cell? ⟨gb568,0,none⟩=some (.int .i64 a0_0):=(blk_cell BK568.out 0).trans rfl
                      have hcz64_1:wc.cell? ⟨gb568,1,none⟩=some (.slice A0_1 l0_1.length c0_1):=(blk_cell BK568.out 1).trans rfl
                      have hfz64_0:=blk_frozen BK568.out 0
                      have hfz64_1:=blk_frozen BK568.out 1
                      have hcz65_0:wc.cell? ⟨gb581,0,none⟩=some (.int .i64 ((rd_T56 y573 x32_3).f0)):=(blk_cell BK581.out 0).trans rfl
                      have hcz65_1:wc.cell? ⟨gb581,1,none⟩=some (.int .i64 ((rd_T56 y573 x32_3).f1)):=(blk_cell BK581.out 1).trans rfl
                      have hcz65_2:wc.cell? ⟨gb581,2,none⟩=some (.int .i64 ((rd_T56 y573 x32_3).f2)):=(blk_cell BK581.out 2).trans rfl
                      have hfz65_0:=blk_frozen BK581.out 0
                      have hfz65_1:=blk_frozen BK581.out 1
                      have hfz65_2:=blk_frozen BK581.out 2
                      have p583:0≤(((rd_T56 y573 x32_3).f1):Int):=of_decide_eq_true (by first|(with_reducible assumption)|assumption)
                      have q583:((rd_T56 y573 x32_3).f1)<(l0_1.length:Int):=of_decide_eq_true (by first|(with_reducible assumption)|assumption)
                      obtain ⟨ad583,e583,hx583_0,hx583_1⟩:=at_T88 HR0_1.out ((rd_T56 y573 x32_3).f1) p583 q583
                      cases e583
                      replace hx583_0:=(HB.out.cell (World.block_lt_of_cell? w _ hx583_0)).trans hx583_0
                      replace hx583_1:=(HB.out.cell (World.block_lt_of_cell? w _ hx583_1)).trans hx583_1
                      replace p583:=eq_true p583
                      replace q583:=eq_true q583
                      try go_wp2_with (first|((with_reducible refine gate_dst (N:=10) rfl ?_);(try (refine gate_guard (by rfl) ?_;dsimp only));refine box_event ?hg (N:=10) ?hd (cs:=#[.int .i64 0,.int .i64 0]) (t:=88) ?hr ?_;(case hd=>rfl);(case hg=>rfl);(case hr=>first|(go_simp;done)|(go_simp;rfl));intro gb584 hg w66 hbox hb;have n0_:=Aside0.mk (Kd.S_below (by exact HO_5.out) hb);have n1_:=Aside0.mk (Kd.R_below (by exact HO_7.out) hb);have n2_:=Aside0.mk (blk_below (g:=gb568) (o:=.cells #[.int .i64 a0_0,.slice (some ad583) l0_1.length c0_1] 30 (0,0)) (by exact BK568.out) hb);have n3_:=Aside0.mk (blk_below (g:=gb581) (o:=.cells #[.int .i64 ((rd_T56 y573 x32_3).f0),.int .i64 ((rd_T56 y573 x32_3).f1),.int .i64 ((rd_T56 y573 x32_3).f2)] 56 (0,0)) (by exact BK581.out) hb);have n4_:=Aside0.mk (below_step (by exact HB.out) hb);have n5_:=Aside0.mk (hbox);have n6_:=Aside0.mk ((by rw [hg];exact (below_size (by exact HB.out)):w.heap.size≤gb584));have n7_:=Aside0.mk ((by rw [hg];exact (below_size (by exact HB.out)):w.heap.size≤gb584));have n8_:=Aside0.mk ((by rw [hg];exact Nat.ne_of_lt (blk_lt (g:=gb568) (o:=.cells #[.int .i64 a0_0,.slice (some ad583) l0_1.length c0_1] 30 (0,0)) (by exact BK568.out)):gb568 ≠ gb584));have n9_:=Aside0.mk ((by rw [hg];exact Nat.ne_of_gt (blk_lt (g:=gb568) (o:=.cells #[.int .i64 a0_0,.slice (some ad583) l0_1.length c0_1] 30 (0,0)) (by exact BK568.out)):gb584 ≠ gb568));have n10_:=Aside0.mk ((by rw [hg];exact Nat.ne_of_lt (blk_lt (g:=gb581) (o:=.cells #[.int .i64 ((rd_T56 y573 x32_3).f0),.int .i64 ((rd_T56 y573 x32_3).f1),.int .i64 ((rd_T56 y573 x32_3).f2)] 56 (0,0)) (by exact BK581.out)):gb581 ≠ gb584));have n11_:=Aside0.mk ((by rw [hg];exact Nat.ne_of_gt (blk_lt (g:=gb581) (o:=.cells #[.int .i64 ((rd_T56 y573 x32_3).f0),.int .i64 ((rd_T56 y573 x32_3).f1),.int .i64 ((rd_T56 y573 x32_3).f2)] 56 (0,0)) (by exact BK581.out)):gb584 ≠ gb581));clear HO_5;clear HO_7;clear BK568;clear BK581;clear HB;have HO_5:=n0_;have HO_7:=n1_;have BK568:=n2_;have BK581:=n3_;have HB:=n4_;have BK584:=n5_;have GW584:=n6_;have GE584:=n7_;have NB568_584:=n8_;have NB584_568:=n9_;have NB581_584:=n10_;have NB584_581:=n11_;clear n0_ n1_ n2_ n3_ n4_ n5_ n6_ n7_ n8_ n9_ n10_ n11_;clear hb hbox hg;have hnb67:=NB584_568.out;have hnc67:=NB568_584.out;have hnb68:=NB584_581.out;have hnc68:=NB581_584.out;have hcz69_0:w66.cell? ⟨gb584,0,none⟩=some (.int .i64 0):=(blk_cell BK584.out 0).trans rfl;have hcz69_1:w66.cell? ⟨gb584,1,none⟩=some (.int .i64 0):=(blk_cell BK584.out 1).trans rfl;have hfz69_0:=blk_frozen BK584.out 0;have hfz69_1:=blk_frozen BK584.out 1))
                      have n0_:Aside0 (Kd.S (Kd.slice 3 (Kd.int .i64)) 59 ((w66.setCell ⟨gb584,0,none⟩ (.int .i64 ((rd_T88 l0_1 ((rd_T56 y573 x32_3).f1)).f0))).setCell ⟨gb584,1,none⟩ (.int .i64 ((rd_T88 l0_1 ((rd_T56 y573 x32_3).f1)).f1))) w.heap.size (fun k_=>some k_ ≠ (v571:Value).ownBlock) u5 x5_2):=⟨by exact Kd.S_mono (Kd.S_far (p:=⟨gb584,1,none⟩) (Kd.S_far (p:=⟨gb584,0,none⟩) (Kd.S_types HO_5.out BK584.out (by decide)) (fun _ hk=>hk.2) (.int .i64 ((rd_T88 l0_1 ((rd_T56 y573 x32_3).f1)).f0))) (fun _ hk=>hk.2) (.int .i64 ((rd_T88 l0_1 ((rd_T56 y573 x32_3).f1)).f1))) (fun _ hk=>hk.1)⟩
                      have n1_:Aside0 (Kd.R (Kd.int .i64) 3 ((w66.setCell ⟨gb584,0,none⟩ (.int .i64 ((rd_T88 l0_1 ((rd_T56 y573 x32_3).f1)).f0))).setCell ⟨gb584,1,none⟩ (.int .i64 ((rd_T88 l0_1 ((rd_T56 y573 x32_3).f1)).f1))) w.heap.size (fun _=>True) v571 x7_3):=⟨by exact Kd.R_mono (Kd.R_far (p:=⟨gb584,1,none⟩) (Kd.R_far (p:=⟨gb584,0,none⟩) (Kd.R_types HO_7.out BK584.out (by decide)) (fun _ hk=>hk.2) (.int .i64 ((rd_T88 l0_1 ((rd_T56 y573 x32_3).f1)).f0))) (fun _ hk=>hk.2) (.int .i64 ((rd_T88 l0_1 ((rd_T56 y573 x32_3).f1)).f1))) (fun _ hk=>trivial)⟩
                      have n2_:Aside0 (((w66.setCell ⟨gb584,0,none⟩ (.int .i64 ((rd_T88 l0_1 ((rd_T56 y573 x32_3).f1)).f0))).setCell ⟨gb584,1,none⟩ (.int .i64 ((rd_T88 l0_1 ((rd_T56 y573 x32_3).f1)).f1))).heap[gb568]?=some (.cells #[.int .i64 a0_0,.slice (some ad583) l0_1.length c0_1] 30 (0,0))):=⟨by refine blk_far ?_ NB568_584.out _;refine blk_far ?_ NB568_584.out _;exact BK568.out⟩
                      have n3_:Aside0 (((w66.setCell ⟨gb584,0,none⟩ (.int .i64 ((rd_T88 l0_1 ((rd_T56 y573 x32_3).f1)).f0))).setCell ⟨gb584,1,none⟩ (.int .i64 ((rd_T88 l0_1 ((rd_T56 y573 x32_3).f1)).f1))).heap[gb581]?=some (.cells #[.int .i64 ((rd_T56 y573 x32_3).f0),.int .i64 ((rd_T56 y573 x32_3).f1),.int .i64 ((rd_T56 y573 x32_3).f2)] 56 (0,0))):=⟨by refine blk_far ?_ NB581_584.out _;refine blk_far ?_ NB581_584.out _;exact BK581.out⟩
                      have n4_:Aside0 (((w66.setCell ⟨gb584,0,none⟩ (.int .i64 ((rd_T88 l0_1 ((rd_T56 y573 x32_3).f1)).f0))).setCell ⟨gb584,1,none⟩ (.int .i64 ((rd_T88 l0_1 ((rd_T56 y573 x32_3).f1)).f1))).heap[gb584]?=some (.cells #[.int .i64 ((rd_T88 l0_1 ((rd_T56 y573 x32_3).f1)).f0),.int .i64 ((rd_T88 l0_1 ((rd_T56 y573 x32_3).f1)).f1)] 88 (0,0))):=⟨by refine blk_put (cs:=#[.int .i64 ((rd_T88 l0_1 ((rd_T56 y573 x32_3).f1)).f0),.int .i64 0]) ?_ 1 _ rfl;refine blk_put (cs:=#[.int .i64 0,.int .i64 0]) ?_ 0 _ rfl;exact BK584.out⟩
                      have n5_:Aside0 (Below w.heap.size w ((w66.setCell ⟨gb584,0,none⟩ (.int .i64 ((rd_T88 l0_1 ((rd_T56 y573 x32_3).f1)).f0))).setCell ⟨gb584,1,none⟩ (.int .i64 ((rd_T88 l0_1 ((rd_T56 y573 x32_3).f1)).f1)))):=⟨by repeat (first|(with_reducible first|exact HB.out|apply below_alloc|apply pw_below_drewN|apply below_drew1|refine below_set ?_ GE568.out|refine below_set ?_ GE581.out|refine below_set ?_ GE584.out)|exact HB.out)⟩
                      (try clear HO_5)
                      (try clear HO_7)
                      (try clear BK568)
                      (try clear BK581)
                      (try clear BK584)
                      (try clear HB)
                      generalize ((w66.setCell ⟨gb584,0,none⟩ (.int .i64 ((rd_T88 l0_1 ((rd_T56 y573 x32_3).f1)).f0))).setCell ⟨gb584,1,none⟩ (.int .i64 ((rd_T88 l0_1 ((rd_T56 y573 x32_3).f1)).f1)))=w70 at n0_ n1_ n2_ n3_ n4_ n5_ ⊢
                      have HO_5:=n0_
                      have HO_7:=n1_
                      have BK568:=n2_
                      have BK581:=n3_
                      have BK584:=n4_
                      have HB:=n5_
                      clear n0_ n1_ n2_ n3_ n4_ n5_
                      have n0_:=Aside0.mk (Kd.S_drew HO_5.out)
                      have n1_:=Aside0.mk (Kd.R_drew HO_7.out)
                      have n2_:=Aside0.mk (blk_drew BK568.out)
                      have n3_:=Aside0.mk (blk_drew BK581.out)
                      have n4_:=Aside0.mk (blk_drew BK584.out)
                      have n5_:=Aside0.mk (below_drew1 HB.out)
                      clear HO_5
                      clear HO_7
                      clear BK568
                      clear BK581
                      clear BK584
                      clear HB
                      have HO_5:=n0_
                      have HO_7:=n1_
                      have BK568:=n2_
                      have BK581:=n3_
                      have BK584:=n4_
                      have HB:=n5_
                      clear n0_ n1_ n2_ n3_ n4_ n5_
                      obtain ⟨Ao72,co72,eo72⟩:=Kd.R_slice HO_7.out
                      (first|subst eo72|(injection eo72 with f1_ f2_ f3_;have f4_:=f1_.symm;have f5_:=f3_.symm;clear f1_ f2_ f3_;subst f4_;subst f5_))
                      have p585:0≤(((rd_T88 l0_1 ((rd_T56 y573 x32_3).f1)).f0):Int):=of_decide_eq_true (by first|(with_reducible assumption)|assumption)
                      have q585:((rd_T88 l0_1 ((rd_T56 y573 x32_3).f1)).f0)<(x7_3.length:Int):=of_decide_eq_true (by first|(with_reducible assumption)|assumption)
                      obtain ⟨ad585,e585,hx585_0⟩:=Kd.at_int (Kd.R_reads' HO_7.out).2.2 ((rd_T88 l0_1 ((rd_T56 y573 x32_3).f1)).f0) p585 q585
                      cases e585
                      replace p585:=eq_true p585
                      replace q585:=eq_true q585
                      have p43:0≤(((rd_T88 l0_1 ((rd_T56 y573 x32_3).f1)).f0):Int):=of_decide_eq_true (by first|(with_reducible assumption)|assumption)
                      have q43:(((rd_T88 l0_1 ((rd_T56 y573 x32_3).f1)).f0):Int)<((x7_3.length:Int):Int):=of_decide_eq_true (by first|(with_reducible assumption)|assumption)
                      obtain ⟨go43,co43,eo43,gb43,gl43,cl43,HG43⟩:=Kd.R_form HO_7.out (by omega)
                      (first|cases eo43|(injection eo43 with ea_ en_ ec_;(first|subst ea_|(injection ea_ with ea_;subst ea_));subst ec_;clear en_))
                      have GB43:=Aside0.mk gb43
                      have GG43:=Aside0.mk HG43
                      clear gb43 gl43 HG43
                      (first|simp only [add_plain] at hx585_0|skip)
                      obtain ⟨hx43_0,hf43_0⟩:=Kd.R_celln 0 HO_7.out (((rd_T88 l0_1 ((rd_T56 y573 x32_3).f1)).f0):Int) p43 q43
                      replace p43:=eq_true p43
                      replace q43:=eq_true q43
                      have HP73:=Kd.R_putn HO_7.out (((rd_T88 l0_1 ((rd_T56 y573 x32_3).f1)).f0):Int) (wrap64 ((rd x7_3 ((rd_T88 l0_1 ((rd_T56 y573 x32_3).f1)).f0)) - ((rd_T56 y573 x32_3).f2)))
                      rw [← Ny586.out] at HP73
                      have HQ73:=Aside0.mk HP73
                      clear HP73
                      refine start_ (n:=10) (S:=fun w'=>w'.cell? ⟨gb584,0,none⟩=some (.int .i64 ((rd_T88 l0_1 ((rd_T56 y573 x32_3).f1)).f0))∧w'.cell? ⟨gb584,1,none⟩=some (.int .i64 ((rd_T88 l0_1 ((rd_T56 y573 x32_3).f1)).f1))∧w'.cell? ⟨gb581,0,none⟩=some (.int .i64 ((rd_T56 y573 x32_3).f0))∧w'.cell? ⟨gb581,1,none⟩=some (.int .i64 ((rd_T56 y573 x32_3).f1))∧w'.cell? ⟨gb581,2,none⟩=some (.int .i64 ((rd_T56 y573 x32_3).f2))∧w'.cell? ⟨go43,(((rd_T88 l0_1 ((rd_T56 y573 x32_3).f1)).f0)).toNat,none⟩=some (.int .i64 (rd x7_3 ((rd_T88 l0_1 ((rd_T56 y573 x32_3).f1)).f0)))) (ds:=[9]) #[false,false,false,false,false,false,false,false,false,false] (by kernel_rfl) rfl rfl ⟨(blk_cell BK584.out 0).trans rfl,(blk_cell BK584.out 1).trans rfl,(blk_cell BK581.out 0).trans rfl,(blk_cell BK581.out 1).trans rfl,(blk_cell BK581.out 2).trans rfl,hx585_0⟩ (fun hHeld=>?_);refine with_tabW spec_Truth.tab14 spec_Truth.bits14 (fun HT_ HW_=>?_)
                      generalize w70.drew=w71 at HO_5 HO_7 BK568 BK581 BK584 HB GG43 HQ73 hf43_0 hx43_0 hx585_0 hHeld ⊢
                      refine pure_ (i:=0) (N:=some 54) (v:=?_) (a':=?_) #[true,false,false,false,false,false,false,false,false,false] rfl rfl (any_of HT_.out (by kernel_rfl)) (fun _ _ _ h=>h) (Or.inl ⟨by rfl,?_⟩) ?_ ?_
                      rotate_left
                      ·intro w'
                       go_simp
                       with_reducible rfl
                      rotate_left
                      ·simp only [Act.put,List.setIfInBounds_toArray,List.set_cons_zero,List.set_cons_succ,i64_w,i32_w]
                       rfl
                      refine pure_ (i:=1) (N:=some 55) (v:=?_) (a':=?_) #[true,true,false,false,false,false,false,false,false,false] rfl rfl (any_of HT_.out (by kernel_rfl)) (fun _ _ _ h=>h) (Or.inl ⟨by rfl,?_⟩) ?_ ?_
                      rotate_left
                      ·intro w'
                       go_simp
                       with_reducible rfl
                      rotate_left
                      ·simp only [Act.put,List.setIfInBounds_toArray,List.set_cons_zero,List.set_cons_succ,i64_w,i32_w]
                       rfl
                      refine pure_ (i:=5) (N:=some 59) (v:=?_) (a':=?_) #[true,true,false,false,false,true,false,false,false,false] rfl rfl (any_of HT_.out (by kernel_rfl)) (fun _ _ _ h=>h) (Or.inl ⟨by rfl,?_⟩) ?_ ?_
                      rotate_left
                      ·intro w'
                       go_simp
                       with_reducible rfl
                      rotate_left
                      ·simp only [Act.put,List.setIfInBounds_toArray,List.set_cons_zero,List.set_cons_succ,i64_w,i32_w]
                       rfl
                      refine take_ (i:=2) (N:=some 56) (v:=?_) (a':=?_) #[true,true,true,false,false,true,false,false,false,false] rfl rfl (take_ofW HT_.out HW_.out (by kernel_rfl)) (fun _ _ _ h=>h) (Or.inl ⟨by rfl,?_⟩) hHeld ?_ ?_
                      rotate_left
                      ·rintro w' ⟨s0,s1,s2,s3,s4,s5⟩
                       go_simp
                       with_reducible rfl
                      rotate_left
                      ·simp only [Act.put,List.setIfInBounds_toArray,List.set_cons_zero,List.set_cons_succ,i64_w,i32_w]
                       rfl
                      refine pure_ (i:=3) (N:=some 57) (v:=?_) (a':=?_) #[true,true,true,true,false,true,false,false,false,false] rfl rfl (any_of HT_.out (by kernel_rfl)) (fun _ _ _ h=>h) (Or.inl ⟨by rfl,?_⟩) ?_ ?_
                      rotate_left
                      ·intro w'
                       go_simp
                       with_reducible rfl
                      rotate_left
                      ·simp only [Act.put,List.setIfInBounds_toArray,List.set_cons_zero,List.set_cons_succ,i64_w,i32_w]
                       rfl
                      refine take_ (i:=4) (N:=some 58) (v:=?_) (a':=?_) #[true,true,true,true,true,true,false,false,false,false] rfl rfl (take_ofW HT_.out HW_.out (by kernel_rfl)) (fun _ _ _ h=>h) (Or.inl ⟨by rfl,?_⟩) hHeld ?_ ?_
                      rotate_left
                      ·rintro w' ⟨s0,s1,s2,s3,s4,s5⟩
                       go_simp
                       with_reducible rfl
                      rotate_left
                      ·simp only [Act.put,List.setIfInBounds_toArray,List.set_cons_zero,List.set_cons_succ,i64_w,i32_w]
                       rfl
                      refine take_ (i:=6) (N:=some 60) (v:=?_) (a':=?_) #[true,true,true,true,true,true,true,false,false,false] rfl rfl (take_ofW HT_.out HW_.out (by kernel_rfl)) (fun _ _ _ h=>h) (Or.inl ⟨by rfl,?_⟩) hHeld ?_ ?_
                      rotate_left
                      ·rintro w' ⟨s0,s1,s2,s3,s4,s5⟩
                       go_simp
                       with_reducible rfl
                      rotate_left
                      ·simp only [Act.put,List.setIfInBounds_toArray,List.set_cons_zero,List.set_cons_succ,i64_w,i32_w]
                       rfl
                      refine pure_ (i:=7) (N:=some 61) (v:=?_) (a':=?_) #[true,true,true,true,true,true,true,true,false,false] rfl rfl (any_of HT_.out (by kernel_rfl)) (fun _ _ _ h=>h) (Or.inl ⟨by rfl,?_⟩) ?_ ?_
                      rotate_left
                      ·intro w'
                       go_simp
                       with_reducible rfl
                      rotate_left
                      ·simp only [Act.put,List.setIfInBounds_toArray,List.set_cons_zero,List.set_cons_succ,i64_w,i32_w]
                       rfl
                      refine pure_ (i:=8) (N:=some 62) (v:=?_) (a':=?_) #[true,true,true,true,true,true,true,true,true,false] rfl rfl (any_of HT_.out (by kernel_rfl)) (fun _ _ _ h=>h) (Or.inl ⟨by rfl,?_⟩) ?_ ?_
                      rotate_left
                      ·intro w'
                       go_simp
                       with_reducible rfl
                      rotate_left
                      ·simp only [Act.put,List.setIfInBounds_toArray,List.set_cons_zero,List.set_cons_succ,i64_w,i32_w]
                       rfl
                      refine last_ (i:=9) (N:=none) #[true,true,true,true,true,true,true,true,true,true] rfl rfl (one_of HT_.out (by kernel_rfl)) (by decide) (fun K hK=>?_)
                      refine skip_ (w1:=?_) (by rfl) rfl ?_ ?_
                      rotate_left
                      ·go_simp
                       rfl
                      refine hK.out _ _ ?_
                      clear hK K
                      refine done_ (done_of HT_.out (by kernel_rfl)) ?_
                      have hnx_:gb584 ≠ go43:=(by have h_:=Kd.R_ne HO_7.out BK584.out (by decide);intro e_;exact h_ (by rw [e_];rfl))
                      have hny_:go43 ≠ gb584:=fun e_=>hnx_ e_.symm
                      have hcz74_0:w71.cell? ⟨gb584,0,none⟩=some (.int .i64 ((rd_T88 l0_1 ((rd_T56 y573 x32_3).f1)).f0)):=(blk_cell BK584.out 0).trans rfl
                      have hcz74_1:w71.cell? ⟨gb584,1,none⟩=some (.int .i64 ((rd_T88 l0_1 ((rd_T56 y573 x32_3).f1)).f1)):=(blk_cell BK584.out 1).trans rfl
                      have hfz74_0:=blk_frozen BK584.out 0
                      have hfz74_1:=blk_frozen BK584.out 1
                      try go_wp2
                      go_roundg kj24
                      case measure=>have:=HJ2.out;have:=HK2.out;have:=HK3.out;have:=HJ24.out;omega
                      case rel=>exact ⟨(y586),(wrap64 (x32_3+1)),(by first|rfl|(simp;done)|(simp [*];done)),H',⟨by have:=HJ2.out;have:=HK2.out;have:=HK3.out;have:=HJ24.out;omega⟩,⟨by (with_reducible repeat (first|apply Kd.S_alloc|apply Kd.S_drewN|apply Kd.S_drew));exact Kd.S_mono (Kd.S_far (p:=⟨go43,(((rd_T88 l0_1 ((rd_T56 y573 x32_3).f1)).f0):Int).toNat,none⟩) (Kd.S_mono HO_5.out (fun k_ hk=>(⟨hk,fun e_=>hk (by rw [e_];rfl)⟩:_∧k_ ≠ go43))) (fun _ hk=>hk.2) (.int .i64 (wrap64 ((rd x7_3 ((rd_T88 l0_1 ((rd_T56 y573 x32_3).f1)).f0)) - ((rd_T56 y573 x32_3).f2))))) (fun _ hk=>hk.1)⟩,⟨by (with_reducible repeat (first|apply Kd.R_alloc|apply Kd.R_drewN|apply Kd.R_drew));exact HQ73.out⟩,⟨by (with_reducible repeat (first|refine blk_drewN ?_ _|refine blk_drew ?_|refine blk_alloc ?_ _));refine blk_far ?_ (by have h_:=Kd.R_ne HO_7.out BK568.out (by decide);intro e_;exact h_ (by rw [e_];rfl)) _;(with_reducible repeat (first|refine blk_drewN ?_ _|refine blk_drew ?_|refine blk_alloc ?_ _));exact BK568.out⟩,⟨by repeat (first|(with_reducible first|exact HB.out|apply below_alloc|apply pw_below_drewN|apply below_drew1|refine below_set ?_ GB43.out|refine below_set ?_ GE568.out|refine below_set ?_ GE581.out|refine below_set ?_ GE584.out)|exact HB.out)⟩⟩
                     rw [if_neg c42] at H
                     exact absurd H (by simp)
                    rw [if_neg c41] at H
                    exact absurd H (by simp)
                   rw [if_neg c40] at H
                   have c40b0:decide (0≤((rd_T88 l0_1 ((rd_T56 y573 x32_3).f1)).f0))=false:=decide_eq_false c40
                   clear c40
                   by_cases c75:((rd_T88 l0_1 ((rd_T56 y573 x32_3).f1)).f1) ≥ 0
                   ·rw [if_pos c75] at H
                    have c75b0:decide (0≤((rd_T88 l0_1 ((rd_T56 y573 x32_3).f1)).f1))=true:=decide_eq_true c75
                    clear c75
                    by_cases c76:0≤((rd_T88 l0_1 ((rd_T56 y573 x32_3).f1)).f1)
                    ·rw [if_pos c76] at H
                     have c76b0:decide (0≤((rd_T88 l0_1 ((rd_T56 y573 x32_3).f1)).f1))=true:=decide_eq_true c76
                     clear c76
                     by_cases c77:((rd_T88 l0_1 ((rd_T56 y573 x32_3).f1)).f1)<(x7_3.length:Int)
                     ·rw [if_pos c77] at H
                      have c77b0:decide (((rd_T88 l0_1 ((rd_T56 y573 x32_3).f1)).f1)<(x7_3.length:Int))=true:=decide_eq_true c77
                      clear c77
                      obtain ⟨y590,hy590⟩:∃ y_:List Int,y_=(x7_3.set (((rd_T88 l0_1 ((rd_T56 y573 x32_3).f1)).f1):Int).toNat (wrap64 ((rd x7_3 ((rd_T88 l0_1 ((rd_T56 y573 x32_3).f1)).f1))+((rd_T56 y573 x32_3).f2)))):=⟨_,rfl⟩
                      replace H:(spec_Truth.l1 kj24 l1 x5_2 y590 (l1.length:Int) x21_2 y573 (y573.length:Int) (wrap64 (x32_3+1)) a0_0 l0_1)=some r:=by first|(rw [hy590];with_reducible exact H)|(have H2_:=(Option.bind_some _ _).symm.trans H;rw [hy590];with_reducible exact H2_)|(have H2_:=(Option.bind_some _ _).symm.trans H;with_reducible exact H2_)|with_reducible exact H|(rw [hy590];exact H)|exact H
                      have Ny590:=Aside0.mk hy590
                      clear hy590
                      have H':=Aside0.mk H
                      clear H
                      have hnb79:=NB568_581.out
                      have hnc79:=NB581_568.out
                      have hcz80_0:wc.cell? ⟨gb568,0,none⟩=some (.int .i64 a0_0):=(blk_cell BK568.out 0).trans rfl
                      have hcz80_1:wc.cell? ⟨gb568,1,none⟩=some (.slice A0_1 l0_1.length c0_1):=(blk_cell BK568.out 1).trans rfl
                      have hfz80_0:=blk_frozen BK568.out 0
                      have hfz80_1:=blk_frozen BK568.out 1
                      have hcz81_0:wc.cell? ⟨gb581,0,none⟩=some (.int .i64 ((rd_T56 y573 x32_3).f0)):=(blk_cell BK581.out 0).trans rfl
                      have hcz81_1:wc.cell? ⟨gb581,1,none⟩=some (.int .i64 ((rd_T56 y573 x32_3).f1)):=(blk_cell BK581.out 1).trans rfl
                      have hcz81_2:wc.cell? ⟨gb581,2,none⟩=some (.int .i64 ((rd_T56 y573 x32_3).f2)):=(blk_cell BK581.out 2).trans rfl
                      have hfz81_0:=blk_frozen BK581.out 0
                      have hfz81_1:=blk_frozen BK581.out 1
                      have hfz81_2:=blk_frozen BK581.out 2
                      have p583:0≤(((rd_T56 y573 x32_3).f1):Int):=of_decide_eq_true (by first|(with_reducible assumption)|assumption)
                      have q583:((rd_T56 y573 x32_3).f1)<(l0_1.length:Int):=of_decide_eq_true (by first|(with_reducible assumption)|assumption)
                      obtain ⟨ad583,e583,hx583_0,hx583_1⟩:=at_T88 HR0_1.out ((rd_T56 y573 x32_3).f1) p583 q583
                      cases e583
                      replace hx583_0:=(HB.out.cell (World.block_lt_of_cell? w _ hx583_0)).trans hx583_0
                      replace hx583_1:=(HB.out.cell (World.block_lt_of_cell? w _ hx583_1)).trans hx583_1
                      replace p583:=eq_true p583
                      replace q583:=eq_true q583
                      try go_wp2_with (first|((with_reducible refine gate_dst (N:=10) rfl ?_);(try (refine gate_guard (by rfl) ?_;dsimp only));refine box_event ?hg (N:=10) ?hd (cs:=#[.int .i64 0,.int .i64 0]) (t:=88) ?hr ?_;(case hd=>rfl);(case hg=>rfl);(case hr=>first|(go_simp;done)|(go_simp;rfl));intro gb584 hg w82 hbox hb;have n0_:=Aside0.mk (Kd.S_below (by exact HO_5.out) hb);have n1_:=Aside0.mk (Kd.R_below (by exact HO_7.out) hb);have n2_:=Aside0.mk (blk_below (g:=gb568) (o:=.cells #[.int .i64 a0_0,.slice (some ad583) l0_1.length c0_1] 30 (0,0)) (by exact BK568.out) hb);have n3_:=Aside0.mk (blk_below (g:=gb581) (o:=.cells #[.int .i64 ((rd_T56 y573 x32_3).f0),.int .i64 ((rd_T56 y573 x32_3).f1),.int .i64 ((rd_T56 y573 x32_3).f2)] 56 (0,0)) (by exact BK581.out) hb);have n4_:=Aside0.mk (below_step (by exact HB.out) hb);have n5_:=Aside0.mk (hbox);have n6_:=Aside0.mk ((by rw [hg];exact (below_size (by exact HB.out)):w.heap.size≤gb584));have n7_:=Aside0.mk ((by rw [hg];exact (below_size (by exact HB.out)):w.heap.size≤gb584));have n8_:=Aside0.mk ((by rw [hg];exact Nat.ne_of_lt (blk_lt (g:=gb568) (o:=.cells #[.int .i64 a0_0,.slice (some ad583) l0_1.length c0_1] 30 (0,0)) (by exact BK568.out)):gb568 ≠ gb584));have n9_:=Aside0.mk ((by rw [hg];exact Nat.ne_of_gt (blk_lt (g:=gb568) (o:=.cells #[.int .i64 a0_0,.slice (some ad583) l0_1.length c0_1] 30 (0,0)) (by exact BK568.out)):gb584 ≠ gb568));have n10_:=Aside0.mk ((by rw [hg];exact Nat.ne_of_lt (blk_lt (g:=gb581) (o:=.cells #[.int .i64 ((rd_T56 y573 x32_3).f0),.int .i64 ((rd_T56 y573 x32_3).f1),.int .i64 ((rd_T56 y573 x32_3).f2)] 56 (0,0)) (by exact BK581.out)):gb581 ≠ gb584));have n11_:=Aside0.mk ((by rw [hg];exact Nat.ne_of_gt (blk_lt (g:=gb581) (o:=.cells #[.int .i64 ((rd_T56 y573 x32_3).f0),.int .i64 ((rd_T56 y573 x32_3).f1),.int .i64 ((rd_T56 y573 x32_3).f2)] 56 (0,0)) (by exact BK581.out)):gb584 ≠ gb581));clear HO_5;clear HO_7;clear BK568;clear BK581;clear HB;have HO_5:=n0_;have HO_7:=n1_;have BK568:=n2_;have BK581:=n3_;have HB:=n4_;have BK584:=n5_;have GW584:=n6_;have GE584:=n7_;have NB568_584:=n8_;have NB584_568:=n9_;have NB581_584:=n10_;have NB584_581:=n11_;clear n0_ n1_ n2_ n3_ n4_ n5_ n6_ n7_ n8_ n9_ n10_ n11_;clear hb hbox hg;have hnb83:=NB584_568.out;have hnc83:=NB568_584.out;have hnb84:=NB584_581.out;have hnc84:=NB581_584.out;have hcz85_0:w82.cell? ⟨gb584,0,none⟩=some (.int .i64 0):=(blk_cell BK584.out 0).trans rfl;have hcz85_1:w82.cell? ⟨gb584,1,none⟩=some (.int .i64 0):=(blk_cell BK584.out 1).trans rfl;have hfz85_0:=blk_frozen BK584.out 0;have hfz85_1:=blk_frozen BK584.out 1))
                      have n0_:Aside0 (Kd.S (Kd.slice 3 (Kd.int .i64)) 59 ((w82.setCell ⟨gb584,0,none⟩ (.int .i64 ((rd_T88 l0_1 ((rd_T56 y573 x32_3).f1)).f0))).setCell ⟨gb584,1,none⟩ (.int .i64 ((rd_T88 l0_1 ((rd_T56 y573 x32_3).f1)).f1))) w.heap.size (fun k_=>some k_ ≠ (v571:Value).ownBlock) u5 x5_2):=⟨by exact Kd.S_mono (Kd.S_far (p:=⟨gb584,1,none⟩) (Kd.S_far (p:=⟨gb584,0,none⟩) (Kd.S_types HO_5.out BK584.out (by decide)) (fun _ hk=>hk.2) (.int .i64 ((rd_T88 l0_1 ((rd_T56 y573 x32_3).f1)).f0))) (fun _ hk=>hk.2) (.int .i64 ((rd_T88 l0_1 ((rd_T56 y573 x32_3).f1)).f1))) (fun _ hk=>hk.1)⟩
                      have n1_:Aside0 (Kd.R (Kd.int .i64) 3 ((w82.setCell ⟨gb584,0,none⟩ (.int .i64 ((rd_T88 l0_1 ((rd_T56 y573 x32_3).f1)).f0))).setCell ⟨gb584,1,none⟩ (.int .i64 ((rd_T88 l0_1 ((rd_T56 y573 x32_3).f1)).f1))) w.heap.size (fun _=>True) v571 x7_3):=⟨by exact Kd.R_mono (Kd.R_far (p:=⟨gb584,1,none⟩) (Kd.R_far (p:=⟨gb584,0,none⟩) (Kd.R_types HO_7.out BK584.out (by decide)) (fun _ hk=>hk.2) (.int .i64 ((rd_T88 l0_1 ((rd_T56 y573 x32_3).f1)).f0))) (fun _ hk=>hk.2) (.int .i64 ((rd_T88 l0_1 ((rd_T56 y573 x32_3).f1)).f1))) (fun _ hk=>trivial)⟩
                      have n2_:Aside0 (((w82.setCell ⟨gb584,0,none⟩ (.int .i64 ((rd_T88 l0_1 ((rd_T56 y573 x32_3).f1)).f0))).setCell ⟨gb584,1,none⟩ (.int .i64 ((rd_T88 l0_1 ((rd_T56 y573 x32_3).f1)).f1))).heap[gb568]?=some (.cells #[.int .i64 a0_0,.slice (some ad583) l0_1.length c0_1] 30 (0,0))):=⟨by refine blk_far ?_ NB568_584.out _;refine blk_far ?_ NB568_584.out _;exact BK568.out⟩
                      have n3_:Aside0 (((w82.setCell ⟨gb584,0,none⟩ (.int .i64 ((rd_T88 l0_1 ((rd_T56 y573 x32_3).f1)).f0))).setCell ⟨gb584,1,none⟩ (.int .i64 ((rd_T88 l0_1 ((rd_T56 y573 x32_3).f1)).f1))).heap[gb581]?=some (.cells #[.int .i64 ((rd_T56 y573 x32_3).f0),.int .i64 ((rd_T56 y573 x32_3).f1),.int .i64 ((rd_T56 y573 x32_3).f2)] 56 (0,0))):=⟨by refine blk_far ?_ NB581_584.out _;refine blk_far ?_ NB581_584.out _;exact BK581.out⟩
                      have n4_:Aside0 (((w82.setCell ⟨gb584,0,none⟩ (.int .i64 ((rd_T88 l0_1 ((rd_T56 y573 x32_3).f1)).f0))).setCell ⟨gb584,1,none⟩ (.int .i64 ((rd_T88 l0_1 ((rd_T56 y573 x32_3).f1)).f1))).heap[gb584]?=some (.cells #[.int .i64 ((rd_T88 l0_1 ((rd_T56 y573 x32_3).f1)).f0),.int .i64 ((rd_T88 l0_1 ((rd_T56 y573 x32_3).f1)).f1)] 88 (0,0))):=⟨by refine blk_put (cs:=#[.int .i64 ((rd_T88 l0_1 ((rd_T56 y573 x32_3).f1)).f0),.int .i64 0]) ?_ 1 _ rfl;refine blk_put (cs:=#[.int .i64 0,.int .i64 0]) ?_ 0 _ rfl;exact BK584.out⟩
                      have n5_:Aside0 (Below w.heap.size w ((w82.setCell ⟨gb584,0,none⟩ (.int .i64 ((rd_T88 l0_1 ((rd_T56 y573 x32_3).f1)).f0))).setCell ⟨gb584,1,none⟩ (.int .i64 ((rd_T88 l0_1 ((rd_T56 y573 x32_3).f1)).f1)))):=⟨by repeat (first|(with_reducible first|exact HB.out|apply below_alloc|apply pw_below_drewN|apply below_drew1|refine below_set ?_ GE568.out|refine below_set ?_ GE581.out|refine below_set ?_ GE584.out)|exact HB.out)⟩
                      (try clear HO_5)
                      (try clear HO_7)
                      (try clear BK568)
                      (try clear BK581)
                      (try clear BK584)
                      (try clear HB)
                      generalize ((w82.setCell ⟨gb584,0,none⟩ (.int .i64 ((rd_T88 l0_1 ((rd_T56 y573 x32_3).f1)).f0))).setCell ⟨gb584,1,none⟩ (.int .i64 ((rd_T88 l0_1 ((rd_T56 y573 x32_3).f1)).f1)))=w86 at n0_ n1_ n2_ n3_ n4_ n5_ ⊢
                      have HO_5:=n0_
                      have HO_7:=n1_
                      have BK568:=n2_
                      have BK581:=n3_
                      have BK584:=n4_
                      have HB:=n5_
                      clear n0_ n1_ n2_ n3_ n4_ n5_
                      have n0_:=Aside0.mk (Kd.S_drew HO_5.out)
                      have n1_:=Aside0.mk (Kd.R_drew HO_7.out)
                      have n2_:=Aside0.mk (blk_drew BK568.out)
                      have n3_:=Aside0.mk (blk_drew BK581.out)
                      have n4_:=Aside0.mk (blk_drew BK584.out)
                      have n5_:=Aside0.mk (below_drew1 HB.out)
                      clear HO_5
                      clear HO_7
                      clear BK568
                      clear BK581
                      clear BK584
                      clear HB
                      have HO_5:=n0_
                      have HO_7:=n1_
                      have BK568:=n2_
                      have BK581:=n3_
                      have BK584:=n4_
                      have HB:=n5_
                      clear n0_ n1_ n2_ n3_ n4_ n5_
                      obtain ⟨Ao88,co88,eo88⟩:=Kd.R_slice HO_7.out
                      (first|subst eo88|(injection eo88 with f1_ f2_ f3_;have f4_:=f1_.symm;have f5_:=f3_.symm;clear f1_ f2_ f3_;subst f4_;subst f5_))
                      have p589:0≤(((rd_T88 l0_1 ((rd_T56 y573 x32_3).f1)).f1):Int):=of_decide_eq_true (by first|(with_reducible assumption)|assumption)
                      have q589:((rd_T88 l0_1 ((rd_T56 y573 x32_3).f1)).f1)<(x7_3.length:Int):=of_decide_eq_true (by first|(with_reducible assumption)|assumption)
                      obtain ⟨ad589,e589,hx589_0⟩:=Kd.at_int (Kd.R_reads' HO_7.out).2.2 ((rd_T88 l0_1 ((rd_T56 y573 x32_3).f1)).f1) p589 q589
                      cases e589
                      replace p589:=eq_true p589
                      replace q589:=eq_true q589
                      have p78:0≤(((rd_T88 l0_1 ((rd_T56 y573 x32_3).f1)).f1):Int):=of_decide_eq_true (by first|(with_reducible assumption)|assumption)
                      have q78:(((rd_T88 l0_1 ((rd_T56 y573 x32_3).f1)).f1):Int)<((x7_3.length:Int):Int):=of_decide_eq_true (by first|(with_reducible assumption)|assumption)
                      obtain ⟨go78,co78,eo78,gb78,gl78,cl78,HG78⟩:=Kd.R_form HO_7.out (by omega)
                      (first|cases eo78|(injection eo78 with ea_ en_ ec_;(first|subst ea_|(injection ea_ with ea_;subst ea_));subst ec_;clear en_))
                      have GB78:=Aside0.mk gb78
                      have GG78:=Aside0.mk HG78
                      clear gb78 gl78 HG78
                      (first|simp only [add_plain] at hx589_0|skip)
                      obtain ⟨hx78_0,hf78_0⟩:=Kd.R_celln 0 HO_7.out (((rd_T88 l0_1 ((rd_T56 y573 x32_3).f1)).f1):Int) p78 q78
                      replace p78:=eq_true p78
                      replace q78:=eq_true q78
                      have HP89:=Kd.R_putn HO_7.out (((rd_T88 l0_1 ((rd_T56 y573 x32_3).f1)).f1):Int) (wrap64 ((rd x7_3 ((rd_T88 l0_1 ((rd_T56 y573 x32_3).f1)).f1))+((rd_T56 y573 x32_3).f2)))
                      rw [← Ny590.out] at HP89
                      have HQ89:=Aside0.mk HP89
                      clear HP89
                      refine start_ (n:=10) (S:=fun w'=>w'.cell? ⟨gb584,0,none⟩=some (.int .i64 ((rd_T88 l0_1 ((rd_T56 y573 x32_3).f1)).f0))∧w'.cell? ⟨gb584,1,none⟩=some (.int .i64 ((rd_T88 l0_1 ((rd_T56 y573 x32_3).f1)).f1))∧w'.cell? ⟨gb581,0,none⟩=some (.int .i64 ((rd_T56 y573 x32_3).f0))∧w'.cell? ⟨gb581,1,none⟩=some (.int .i64 ((rd_T56 y573 x32_3).f1))∧w'.cell? ⟨gb581,2,none⟩=some (.int .i64 ((rd_T56 y573 x32_3).f2))∧w'.cell? ⟨go78,(((rd_T88 l0_1 ((rd_T56 y573 x32_3).f1)).f1)).toNat,none⟩=some (.int .i64 (rd x7_3 ((rd_T88 l0_1 ((rd_T56 y573 x32_3).f1)).f1)))) (ds:=[9]) #[false,false,false,false,false,false,false,false,false,false] (by kernel_rfl) rfl rfl ⟨(blk_cell BK584.out 0).trans rfl,(blk_cell BK584.out 1).trans rfl,(blk_cell BK581.out 0).trans rfl,(blk_cell BK581.out 1).trans rfl,(blk_cell BK581.out 2).trans rfl,hx589_0⟩ (fun hHeld=>?_);refine with_tabW spec_Truth.tab16 spec_Truth.bits16 (fun HT_ HW_=>?_)
                      generalize w86.drew=w87 at HO_5 HO_7 BK568 BK581 BK584 HB GG78 HQ89 hf78_0 hx589_0 hx78_0 hHeld ⊢
                      refine pure_ (i:=0) (N:=some 66) (v:=?_) (a':=?_) #[true,false,false,false,false,false,false,false,false,false] rfl rfl (any_of HT_.out (by kernel_rfl)) (fun _ _ _ h=>h) (Or.inl ⟨by rfl,?_⟩) ?_ ?_
                      rotate_left
                      ·intro w'
                       go_simp
                       with_reducible rfl
                      rotate_left
                      ·simp only [Act.put,List.setIfInBounds_toArray,List.set_cons_zero,List.set_cons_succ,i64_w,i32_w]
                       rfl
                      refine pure_ (i:=1) (N:=some 67) (v:=?_) (a':=?_) #[true,true,false,false,false,false,false,false,false,false] rfl rfl (any_of HT_.out (by kernel_rfl)) (fun _ _ _ h=>h) (Or.inl ⟨by rfl,?_⟩) ?_ ?_
                      rotate_left
                      ·intro w'
                       go_simp
                       with_reducible rfl
                      rotate_left
                      ·simp only [Act.put,List.setIfInBounds_toArray,List.set_cons_zero,List.set_cons_succ,i64_w,i32_w]
                       rfl
                      refine pure_ (i:=5) (N:=some 71) (v:=?_) (a':=?_) #[true,true,false,false,false,true,false,false,false,false] rfl rfl (any_of HT_.out (by kernel_rfl)) (fun _ _ _ h=>h) (Or.inl ⟨by rfl,?_⟩) ?_ ?_
                      rotate_left
                      ·intro w'
                       go_simp
                       with_reducible rfl
                      rotate_left
                      ·simp only [Act.put,List.setIfInBounds_toArray,List.set_cons_zero,List.set_cons_succ,i64_w,i32_w]
                       rfl
                      refine take_ (i:=2) (N:=some 68) (v:=?_) (a':=?_) #[true,true,true,false,false,true,false,false,false,false] rfl rfl (take_ofW HT_.out HW_.out (by kernel_rfl)) (fun _ _ _ h=>h) (Or.inl ⟨by rfl,?_⟩) hHeld ?_ ?_
                      rotate_left
                      ·rintro w' ⟨s0,s1,s2,s3,s4,s5⟩
                       go_simp
                       with_reducible rfl
                      rotate_left
                      ·simp only [Act.put,List.setIfInBounds_toArray,List.set_cons_zero,List.set_cons_succ,i64_w,i32_w]
                       rfl
                      refine pure_ (i:=3) (N:=some 69) (v:=?_) (a':=?_) #[true,true,true,true,false,true,false,false,false,false] rfl rfl (any_of HT_.out (by kernel_rfl)) (fun _ _ _ h=>h) (Or.inl ⟨by rfl,?_⟩) ?_ ?_
                      rotate_left
                      ·intro w'
                       go_simp
                       with_reducible rfl
                      rotate_left
                      ·simp only [Act.put,List.setIfInBounds_toArray,List.set_cons_zero,List.set_cons_succ,i64_w,i32_w]
                       rfl
                      refine take_ (i:=4) (N:=some 70) (v:=?_) (a':=?_) #[true,true,true,true,true,true,false,false,false,false] rfl rfl (take_ofW HT_.out HW_.out (by kernel_rfl)) (fun _ _ _ h=>h) (Or.inl ⟨by rfl,?_⟩) hHeld ?_ ?_
                      rotate_left
                      ·rintro w' ⟨s0,s1,s2,s3,s4,s5⟩
                       go_simp
                       with_reducible rfl
                      rotate_left
                      ·simp only [Act.put,List.setIfInBounds_toArray,List.set_cons_zero,List.set_cons_succ,i64_w,i32_w]
                       rfl
                      refine take_ (i:=6) (N:=some 72) (v:=?_) (a':=?_) #[true,true,true,true,true,true,true,false,false,false] rfl rfl (take_ofW HT_.out HW_.out (by kernel_rfl)) (fun _ _ _ h=>h) (Or.inl ⟨by rfl,?_⟩) hHeld ?_ ?_
                      rotate_left
                      ·rintro w' ⟨s0,s1,s2,s3,s4,s5⟩
                       go_simp
                       with_reducible rfl
                      rotate_left
                      ·simp only [Act.put,List.setIfInBounds_toArray,List.set_cons_zero,List.set_cons_succ,i64_w,i32_w]
                       rfl
                      refine pure_ (i:=7) (N:=some 73) (v:=?_) (a':=?_) #[true,true,true,true,true,true,true,true,false,false] rfl rfl (any_of HT_.out (by kernel_rfl)) (fun _ _ _ h=>h) (Or.inl ⟨by rfl,?_⟩) ?_ ?_
                      rotate_left
                      ·intro w'
                       go_simp
                       with_reducible rfl
                      rotate_left
                      ·simp only [Act.put,List.setIfInBounds_toArray,List.set_cons_zero,List.set_cons_succ,i64_w,i32_w]
                       rfl
                      refine pure_ (i:=8) (N:=some 74) (v:=?_) (a':=?_) #[true,true,true,true,true,true,true,true,true,false] rfl rfl (any_of HT_.out (by kernel_rfl)) (fun _ _ _ h=>h) (Or.inl ⟨by rfl,?_⟩) ?_ ?_
                      rotate_left
                      ·intro w'
                       go_simp
                       with_reducible rfl
                      rotate_left
                      ·simp only [Act.put,List.setIfInBounds_toArray,List.set_cons_zero,List.set_cons_succ,i64_w,i32_w]
                       rfl
                      refine last_ (i:=9) (N:=none) #[true,true,true,true,true,true,true,true,true,true] rfl rfl (one_of HT_.out (by kernel_rfl)) (by decide) (fun K hK=>?_)
                      refine skip_ (w1:=?_) (by rfl) rfl ?_ ?_
                      rotate_left
                      ·go_simp
                       rfl
                      refine hK.out _ _ ?_
                      clear hK K
                      refine done_ (done_of HT_.out (by kernel_rfl)) ?_
                      try go_wp2
                      go_roundg kj24
                      case measure=>have:=HJ2.out;have:=HK2.out;have:=HK3.out;have:=HJ24.out;omega
                      case rel=>exact ⟨(y590),(wrap64 (x32_3+1)),(by first|rfl|(simp;done)|(simp [*];done)),H',⟨by have:=HJ2.out;have:=HK2.out;have:=HK3.out;have:=HJ24.out;omega⟩,⟨by (with_reducible repeat (first|apply Kd.S_alloc|apply Kd.S_drewN|apply Kd.S_drew));exact Kd.S_mono (Kd.S_far (p:=⟨go78,(((rd_T88 l0_1 ((rd_T56 y573 x32_3).f1)).f1):Int).toNat,none⟩) (Kd.S_mono HO_5.out (fun k_ hk=>(⟨hk,fun e_=>hk (by rw [e_];rfl)⟩:_∧k_ ≠ go78))) (fun _ hk=>hk.2) (.int .i64 (wrap64 ((rd x7_3 ((rd_T88 l0_1 ((rd_T56 y573 x32_3).f1)).f1))+((rd_T56 y573 x32_3).f2))))) (fun _ hk=>hk.1)⟩,⟨by (with_reducible repeat (first|apply Kd.R_alloc|apply Kd.R_drewN|apply Kd.R_drew));exact HQ89.out⟩,⟨by (with_reducible repeat (first|refine blk_drewN ?_ _|refine blk_drew ?_|refine blk_alloc ?_ _));refine blk_far ?_ (by have h_:=Kd.R_ne HO_7.out BK568.out (by decide);intro e_;exact h_ (by rw [e_];rfl)) _;(with_reducible repeat (first|refine blk_drewN ?_ _|refine blk_drew ?_|refine blk_alloc ?_ _));exact BK568.out⟩,⟨by repeat (first|(with_reducible first|exact HB.out|apply below_alloc|apply pw_below_drewN|apply below_drew1|refine below_set ?_ GB78.out|refine below_set ?_ GE568.out|refine below_set ?_ GE581.out|refine below_set ?_ GE584.out)|exact HB.out)⟩⟩
                     rw [if_neg c77] at H
                     exact absurd H (by simp)
                    rw [if_neg c76] at H
                    exact absurd H (by simp)
                   rw [if_neg c75] at H
                   have c75b0:decide (0≤((rd_T88 l0_1 ((rd_T56 y573 x32_3).f1)).f1))=false:=decide_eq_false c75
                   clear c75
                   have H':=Aside0.mk H
                   clear H
                   have hnb90:=NB568_581.out
                   have hnc90:=NB581_568.out
                   have hcz91_0:wc.cell? ⟨gb568,0,none⟩=some (.int .i64 a0_0):=(blk_cell BK568.out 0).trans rfl
                   have hcz91_1:wc.cell? ⟨gb568,1,none⟩=some (.slice A0_1 l0_1.length c0_1):=(blk_cell BK568.out 1).trans rfl
                   have hfz91_0:=blk_frozen BK568.out 0
                   have hfz91_1:=blk_frozen BK568.out 1
                   have hcz92_0:wc.cell? ⟨gb581,0,none⟩=some (.int .i64 ((rd_T56 y573 x32_3).f0)):=(blk_cell BK581.out 0).trans rfl
                   have hcz92_1:wc.cell? ⟨gb581,1,none⟩=some (.int .i64 ((rd_T56 y573 x32_3).f1)):=(blk_cell BK581.out 1).trans rfl
                   have hcz92_2:wc.cell? ⟨gb581,2,none⟩=some (.int .i64 ((rd_T56 y573 x32_3).f2)):=(blk_cell BK581.out 2).trans rfl
                   have hfz92_0:=blk_frozen BK581.out 0
                   have hfz92_1:=blk_frozen BK581.out 1
                   have hfz92_2:=blk_frozen BK581.out 2
                   have p583:0≤(((rd_T56 y573 x32_3).f1):Int):=of_decide_eq_true (by first|(with_reducible assumption)|assumption)
                   have q583:((rd_T56 y573 x32_3).f1)<(l0_1.length:Int):=of_decide_eq_true (by first|(with_reducible assumption)|assumption)
                   obtain ⟨ad583,e583,hx583_0,hx583_1⟩:=at_T88 HR0_1.out ((rd_T56 y573 x32_3).f1) p583 q583
                   cases e583
                   replace hx583_0:=(HB.out.cell (World.block_lt_of_cell? w _ hx583_0)).trans hx583_0
                   replace hx583_1:=(HB.out.cell (World.block_lt_of_cell? w _ hx583_1)).trans hx583_1
                   replace p583:=eq_true p583
                   replace q583:=eq_true q583
                   go_wp2_with (first|((with_reducible refine gate_dst (N:=10) rfl ?_);(try (refine gate_guard (by rfl) ?_;dsimp only));refine box_event ?hg (N:=10) ?hd (cs:=#[.int .i64 0,.int .i64 0]) (t:=88) ?hr ?_;(case hd=>rfl);(case hg=>rfl);(case hr=>first|(go_simp;done)|(go_simp;rfl));intro gb584 hg w93 hbox hb;have n0_:=Aside0.mk (Kd.S_below (by exact HO_5.out) hb);have n1_:=Aside0.mk (Kd.R_below (by exact HO_7.out) hb);have n2_:=Aside0.mk (blk_below (g:=gb568) (o:=.cells #[.int .i64 a0_0,.slice (some ad583) l0_1.length c0_1] 30 (0,0)) (by exact BK568.out) hb);have n3_:=Aside0.mk (blk_below (g:=gb581) (o:=.cells #[.int .i64 ((rd_T56 y573 x32_3).f0),.int .i64 ((rd_T56 y573 x32_3).f1),.int .i64 ((rd_T56 y573 x32_3).f2)] 56 (0,0)) (by exact BK581.out) hb);have n4_:=Aside0.mk (below_step (by exact HB.out) hb);have n5_:=Aside0.mk (hbox);have n6_:=Aside0.mk ((by rw [hg];exact (below_size (by exact HB.out)):w.heap.size≤gb584));have n7_:=Aside0.mk ((by rw [hg];exact (below_size (by exact HB.out)):w.heap.size≤gb584));have n8_:=Aside0.mk ((by rw [hg];exact Nat.ne_of_lt (blk_lt (g:=gb568) (o:=.cells #[.int .i64 a0_0,.slice (some ad583) l0_1.length c0_1] 30 (0,0)) (by exact BK568.out)):gb568 ≠ gb584));have n9_:=Aside0.mk ((by rw [hg];exact Nat.ne_of_gt (blk_lt (g:=gb568) (o:=.cells #[.int .i64 a0_0,.slice (some ad583) l0_1.length c0_1] 30 (0,0)) (by exact BK568.out)):gb584 ≠ gb568));have n10_:=Aside0.mk ((by rw [hg];exact Nat.ne_of_lt (blk_lt (g:=gb581) (o:=.cells #[.int .i64 ((rd_T56 y573 x32_3).f0),.int .i64 ((rd_T56 y573 x32_3).f1),.int .i64 ((rd_T56 y573 x32_3).f2)] 56 (0,0)) (by exact BK581.out)):gb581 ≠ gb584));have n11_:=Aside0.mk ((by rw [hg];exact Nat.ne_of_gt (blk_lt (g:=gb581) (o:=.cells #[.int .i64 ((rd_T56 y573 x32_3).f0),.int .i64 ((rd_T56 y573 x32_3).f1),.int .i64 ((rd_T56 y573 x32_3).f2)] 56 (0,0)) (by exact BK581.out)):gb584 ≠ gb581));clear HO_5;clear HO_7;clear BK568;clear BK581;clear HB;have HO_5:=n0_;have HO_7:=n1_;have BK568:=n2_;have BK581:=n3_;have HB:=n4_;have BK584:=n5_;have GW584:=n6_;have GE584:=n7_;have NB568_584:=n8_;have NB584_568:=n9_;have NB581_584:=n10_;have NB584_581:=n11_;clear n0_ n1_ n2_ n3_ n4_ n5_ n6_ n7_ n8_ n9_ n10_ n11_;clear hb hbox hg;have hnb94:=NB584_568.out;have hnc94:=NB568_584.out;have hnb95:=NB584_581.out;have hnc95:=NB581_584.out;have hcz96_0:w93.cell? ⟨gb584,0,none⟩=some (.int .i64 0):=(blk_cell BK584.out 0).trans rfl;have hcz96_1:w93.cell? ⟨gb584,1,none⟩=some (.int .i64 0):=(blk_cell BK584.out 1).trans rfl;have hfz96_0:=blk_frozen BK584.out 0;have hfz96_1:=blk_frozen BK584.out 1))
                   go_roundg kj24
                   case measure=>have:=HJ2.out;have:=HK2.out;have:=HK3.out;have:=HJ24.out;omega
                   case rel=>exact ⟨(x7_3),(wrap64 (x32_3+1)),(by first|rfl|(simp;done)|(simp [*];done)),H',⟨by have:=HJ2.out;have:=HK2.out;have:=HK3.out;have:=HJ24.out;omega⟩,⟨by (with_reducible repeat (first|apply Kd.S_alloc|apply Kd.S_drewN|apply Kd.S_drew));exact Kd.S_mono (Kd.S_far (p:=⟨gb584,1,none⟩) (Kd.S_far (p:=⟨gb584,0,none⟩) (Kd.S_types HO_5.out BK584.out (by decide)) (fun _ hk=>hk.2) (.int .i64 ((rd_T88 l0_1 ((rd_T56 y573 x32_3).f1)).f0))) (fun _ hk=>hk.2) (.int .i64 ((rd_T88 l0_1 ((rd_T56 y573 x32_3).f1)).f1))) (fun _ hk=>hk.1)⟩,⟨by (with_reducible repeat (first|apply Kd.R_alloc|apply Kd.R_drewN|apply Kd.R_drew));exact Kd.R_mono (Kd.R_far (p:=⟨gb584,1,none⟩) (Kd.R_far (p:=⟨gb584,0,none⟩) (Kd.R_types HO_7.out BK584.out (by decide)) (fun _ hk=>hk.2) (.int .i64 ((rd_T88 l0_1 ((rd_T56 y573 x32_3).f1)).f0))) (fun _ hk=>hk.2) (.int .i64 ((rd_T88 l0_1 ((rd_T56 y573 x32_3).f1)).f1))) (fun _ hk=>trivial)⟩,⟨by (with_reducible repeat (first|refine blk_drewN ?_ _|refine blk_drew ?_|refine blk_alloc ?_ _));refine blk_far ?_ NB568_584.out _;(with_reducible repeat (first|refine blk_drewN ?_ _|refine blk_drew ?_|refine blk_alloc ?_ _));refine blk_far ?_ NB568_584.out _;(with_reducible repeat (first|refine blk_drewN ?_ _|refine blk_drew ?_|refine blk_alloc ?_ _));exact BK568.out⟩,⟨by repeat (first|(with_reducible first|exact HB.out|apply below_alloc|apply pw_below_drewN|apply below_drew1|refine below_set ?_ GE568.out|refine below_set ?_ GE581.out|refine below_set ?_ GE584.out)|exact HB.out)⟩⟩
                  rw [if_neg c39] at H
                  exact absurd H (by simp)
                 rw [if_neg c38] at H
                 exact absurd H (by simp)
              rw [if_neg c24] at H
              exact absurd H (by simp)
             rw [if_neg c23] at H
             exact absurd H (by simp)
            rw [if_neg c22] at H
            have c22b0:decide (x32_3<(y573.length:Int))=false:=decide_eq_false c22
            clear c22
            by_cases c97:x5_2.length<5864062014805
            ·rw [if_pos c97] at H
             have LMc97:=Aside0.mk c97
             clear c97
             obtain ⟨y577,hy577⟩:∃ y_:List (List Int),y_=(x5_2 ++ [x7_3]):=⟨_,rfl⟩
             replace H:(spec_Truth.l0 k3 l1 y577 (l1.length:Int) (wrap64 (x21_2+1)) a0_0 l0_1)=some r:=by first|(rw [hy577];with_reducible exact H)|(have H2_:=(Option.bind_some _ _).symm.trans H;rw [hy577];with_reducible exact H2_)|(have H2_:=(Option.bind_some _ _).symm.trans H;with_reducible exact H2_)|with_reducible exact H|(rw [hy577];exact H)|exact H
             have Ny577:=Aside0.mk hy577
             clear hy577
             have H':=Aside0.mk H
             clear H
             obtain ⟨Ao99,co99,eo99⟩:=Kd.R_slice HO_7.out
             subst eo99
             go_wp2_with (first|((with_reducible refine gate_builtin (b:=.append) (xs:=#[.tmp 76,.tmp 78]) rfl ?_);(try (refine gate_guard (by rfl) ?_;dsimp only));at_builtin;refine Kd.S_append (Kd.slice 3 (Kd.int .i64)) (w0:=w) w.heap.size rfl (.tmp 76) (.tmp 78) 73 59 (.slice none 0 0) 24 rfl Try.underlying73 info59 rfl (by decide) (by omega) u5 x5_2 x7_3 [.slice Ao99 x7_3.length co99] (fun _=>True) (fun k_=>some k_=(.slice Ao99 x7_3.length co99:Value).ownBlock) rfl rfl ?aP (fun k_ hk_=>((Kd.R_mono (ok':=fun k_=>((fun _=>True)) k_∧some k_ ≠ (u5:Value).ownBlock) (Kd.R_apart' (HO_7.out) (Kd.S_typed HO_5.out) (by decide)) (fun k_ hk=>⟨trivial,hk.2⟩))).1 k_ hk_.symm) ?aF ?aO ?aB ?aS ?aL ?_;(case aP=>exact Kd.M_row (Kd.R_mono (Kd.R_tight rfl (Kd.R_mono (ok':=fun k_=>((fun _=>True)) k_∧some k_ ≠ (u5:Value).ownBlock) (Kd.R_apart' (HO_7.out) (Kd.S_typed HO_5.out) (by decide)) (fun k_ hk=>⟨trivial,hk.2⟩))) (fun _ h_=>h_)));(case aB=>exact (by exact HB.out));(case aF=>exact (fun _ _=>trivial));(case aO=>exact (by exact Kd.S_mono HO_5.out (fun k_ hk=>⟨trivial,fun e_=>hk e_⟩)));(case aS=>exact (below_size (by exact HB.out)));(case aL=>have:=LMc97.out;omega);intro v578 w98 ho hb hg hat;rw [← Ny577.out] at ho;have n0_:=Aside0.mk (blk_grown (g:=gb568) (o:=.cells #[.int .i64 a0_0,.slice A0_1 l0_1.length c0_1] 30 (0,0)) (by exact BK568.out) hg (Kd.S_ne HO_5.out BK568.out (by decide)));have n1_:=Aside0.mk (hb);have n2_:=Aside0.mk (ho);clear BK568;clear HB;clear HO_5;clear HO_7;have BK568:=n0_;have HB:=n1_;have HO579:=n2_;clear n0_ n1_ n2_;clear ho hb hg hat))
             go_roundg k3
             case measure=>have:=HJ2.out;have:=HK2.out;have:=HK3.out;omega
             case rel=>exact ⟨(y577),(wrap64 (x21_2+1)),(by first|rfl|(simp;done)|(simp [*];done)),H',⟨by have:=HJ2.out;have:=HK2.out;have:=HK3.out;omega⟩,⟨by exact HO579.out⟩,⟨by exact BK568.out⟩,⟨by exact HB.out⟩⟩
            rw [if_neg c97] at H
            exact absurd H (by simp)
         rw [if_neg c17] at H
         exact absurd H (by simp)
        rw [if_neg c16] at H
        exact absurd H (by simp)
       rw [if_neg c14] at H
       exact absurd H (by simp)
      rw [if_neg c13] at H
      exact absurd H (by simp)
     rw [if_neg c12] at H
     have c12b0:decide (x21_2<(l1.length:Int))=false:=decide_eq_false c12
     clear c12
     obtain rfl:=Option.some.inj H
     go_wp2
     go_ret
     exact ⟨_,by first|rfl|(simp [errW_none,errW_some] <;> rfl)|(simp [*,errW_none,errW_some] <;> rfl),by exact HO_5.out,by exact HB.out⟩
end Go.Proofs.Ytpdnabhpkdchjaa.P
namespace Go.Proofs.Ytpdnabhpkdchjaa.P
open Go.RowKit Go.Proofs.YtpdnabhpkdchjaaW.PrintWords Go.Proofs.YtpdnabhpkdchjaaW.PrintLast
set_option linter.unusedVariables false
set_option linter.unusedSimpArgs false
def axle (c:S88) (d:Int) (row:List Int):List Int :=
 let row1:=if 0≤c.f0 then row.set c.f0.toNat (wrap64 (rd row c.f0 - d)) else row
 if 0≤c.f1 then row1.set c.f1.toNat (wrap64 (rd row1 c.f1+d)) else row1
def isPass (n:Int) (l:List S88) (e:S56):Bool:=eventOk n l e.f0 e.f1 e.f2 && decide (e.f0=1)
def tstep (n:Int) (l:List S88) (row:List Int) (e:S56):List Int:=if isPass n l e then axle (rd_T88 l e.f1) e.f2 row else row
def row0 (n:Int):List Int:=List.replicate n.toNat 0
def truthAt (n:Int) (l:List S88) (es:List S56) (k:Nat):List Int:=(es.take k).foldl (tstep n l) (row0 n)
def truth (n:Int) (l:List S88) (es:List S56):List (List Int) :=
 if layoutOk n l=0∧es.length≤2000 then (List.range es.length).map fun k=>truthAt n l es (k+1) else []
theorem axle_length (c:S88) (d:Int) (row:List Int):(axle c d row).length=row.length:=by
 unfold axle
 by_cases h0:0≤c.f0 <;> by_cases h1:0≤c.f1 <;> simp [h0,h1]
theorem tstep_length (n:Int) (l:List S88) (row:List Int) (e:S56):(tstep n l row e).length=row.length:=by
 unfold tstep
 by_cases h:isPass n l e=true
 ·rw [if_pos h,axle_length]
 rw [if_neg h]
theorem foldl_tstep_length (n:Int) (l:List S88) (es:List S56):∀ row:List Int,(es.foldl (tstep n l) row).length=row.length:=by
 induction es with
 | nil=>intro row;rfl
 | cons e es ih=>intro row;rw [List.foldl_cons,ih,tstep_length]
theorem truthAt_length (n:Int) (l:List S88) (es:List S56) (k:Nat):(truthAt n l es k).length=n.toNat:=by
 rw [truthAt,foldl_tstep_length,row0,List.length_replicate]
theorem lay_ctr {n:Int} {l:List S88} (h:layoutOk n l=0):∀ x ∈ l,-1≤x.f0∧x.f0<n∧-1≤x.f1∧x.f1<n∧x.f0 ≠ x.f1:=by
 unfold layoutOk at h
 split at h
 ·cases h
 split at h
 ·cases h
 split at h
 ·cases h
 split at h
 ·rename_i hall
  intro x hx
  have:=List.all_eq_true.1 hall x hx
  simp only [ctrOk,inB,Bool.and_eq_true,decide_eq_true_eq,Bool.not_eq_true',beq_eq_false_iff_ne] at this
  exact ⟨this.1.1.1,this.1.1.2,this.1.2.1,this.1.2.2,this.2⟩
 cases h
theorem lay_rd {n:Int} {l:List S88} (h:layoutOk n l=0) (i:Int) (h0:0≤i) (h1:i<l.length):-1≤(rd_T88 l i).f0∧(rd_T88 l i).f0<n∧-1≤(rd_T88 l i).f1∧(rd_T88 l i).f1<n∧(rd_T88 l i).f0 ≠ (rd_T88 l i).f1:=by
 refine lay_ctr h _ ?_
 have hlt:i.toNat<l.length:=by omega
 have:rd_T88 l i=l[i.toNat]:=by simp [rd_T88,hlt]
 rw [this]
 exact List.getElem_mem hlt
theorem isPass_of {n:Int} {l:List S88} {e:S56} (h:isPass n l e=true):e.f0=1∧0≤e.f1∧e.f1<l.length∧(e.f2=1 ∨ e.f2=-1)∧eventOk n l e.f0 e.f1 e.f2=true:=by
 simp only [isPass,Bool.and_eq_true,decide_eq_true_eq] at h
 obtain ⟨h1,h2⟩:=h
 have h1':=h1
 rw [h2,eventOk] at h1
 split at h1
 ·simp at h1
  exact ⟨h2,h1.1.1,h1.1.2,h1.2,h1'⟩
 cases h1
section
variable {n : Int} {l : List S88} {es : List S56} {R : List (List Int)}
theorem rd56 (l:List S56) (i:Nat) (h:i<l.length):rd_T56 l (i:Int)=l[i]:=by simp [rd_T56,h]
theorem specTruth_j3 (hl:layoutOk n l=0) (out:List (List Int)) (row:List Int) (hrow:row.length=n.toNat) (x20 x21:Int) (pre:List S56) (i:Nat) (hi:i<9223372036854775807) (e:S56) (b:Bool) (hb:b=!(isPass n l e))
  (h:Ev (fun k=>spec_Truth.l1 k es out (tstep n l row e) x20 x21 pre (pre.length:Int) ((i+1:Nat):Int) n l) R) :
  Ev (fun k=>spec_Truth.j3 k es out row x20 x21 pre (pre.length:Int) (i:Int) b n l e.f0 e.f1 e.f2) R:=by
 have hn:=lay_n hl
 refine Ev.step (fun k=>by simp only [spec_Truth.j3,wrap_succ hi];rfl) ?_
 cases hp:isPass n l e with
 | false =>
  rw [hp] at hb
  simp only [tstep,hp] at h
  exact Ev.ite_pos hb h
 | true =>
  rw [hp] at hb
  obtain ⟨e0,e1,e2,e3,e4⟩:=isPass_of hp
  obtain ⟨c0,c1,c2,c3,c4⟩:=lay_rd hl e.f1 e1 e2
  refine Ev.ite_neg (by simp [hb]) (Ev.ite_pos e1 (Ev.ite_pos e2 ?_))
  simp only [tstep,hp,if_true,axle] at h
  by_cases h0:0≤(rd_T88 l e.f1).f0
  ·simp only [h0,if_true] at h
   refine Ev.ite_pos h0 (Ev.ite_pos h0 (Ev.ite_pos (by rw [hrow];omega) ?_))
   simp only [Option.bind_some]
   by_cases h1:0≤(rd_T88 l e.f1).f1
   ·simp only [h1,if_true] at h
    exact Ev.ite_pos h1 (Ev.ite_pos h1 (Ev.ite_pos (by rw [hrow];omega) h))
   simp only [h1,if_false] at h
   exact Ev.ite_neg h1 h
  simp only [h0,if_false] at h
  refine Ev.ite_neg h0 ?_
  by_cases h1:0≤(rd_T88 l e.f1).f1
  ·simp only [h1,if_true] at h
   exact Ev.ite_pos h1 (Ev.ite_pos h1 (Ev.ite_pos (by rw [hrow];omega) h))
  simp only [h1,if_false] at h
  exact Ev.ite_neg h1 h
theorem specTruth_l1 (hl:layoutOk n l=0) (out:List (List Int)) (ho:out.length<5864062014805) (x20:Int) (j:Nat) (hj:j<9223372036854775807) (pre:List S56) (hpre:pre.length<9223372036854775807) (d:Nat):∀ (i:Nat) (row:List Int),i+d=pre.length→row.length=n.toNat →
  Ev (fun k=>spec_Truth.l0 k es (out ++ [(pre.drop i).foldl (tstep n l) row]) x20 ((j+1:Nat):Int) n l) R →
  Ev (fun k=>spec_Truth.l1 k es out row x20 (j:Int) pre (pre.length:Int) (i:Int) n l) R:=by
 induction d with
 | zero =>
  intro i row hi hrow h
  rw [List.drop_eq_nil_of_le (by omega)] at h
  refine Ev.step (fun k=>?_) h
  simp only [spec_Truth.l1,wrap_succ hj]
  rw [if_neg (by omega),if_pos ho]
  rfl
 | succ d ih =>
  intro i row hi hrow h
  have hlt:i<pre.length:=by omega
  rw [List.drop_eq_getElem_cons hlt,List.foldl_cons] at h
  have h2:=ih (i+1) (tstep n l row pre[i]) (by omega) (by rw [tstep_length];exact hrow) h
  refine Ev.step (fun k=>by simp only [spec_Truth.l1,rd56 pre i hlt];rw [if_pos (by omega),if_pos (by omega),if_pos (by omega)]) ?_
  by_cases h1:pre[i].f0=1
  ·refine Ev.ite_pos h1 (Ev.bind (specEventOk_ev n l _ _ _) ?_)
   exact specTruth_j3 hl out row hrow x20 j pre i (by omega) pre[i] _ (by simp [isPass,h1]) h2
  refine Ev.ite_neg h1 ?_
  exact specTruth_j3 hl out row hrow x20 j pre i (by omega) pre[i] _ (by simp [isPass,h1]) h2
theorem specTruth_l0 (hl:layoutOk n l=0) (he:es.length≤2000) (d:Nat):∀ (j:Nat),j+d=es.length →
  Ev (fun k=>spec_Truth.l0 k es ((List.range j).map fun k=>truthAt n l es (k+1)) (es.length:Int) (j:Int) n l) ((List.range es.length).map fun k=>truthAt n l es (k+1)):=by
 have hn:=lay_n hl
 induction d with
 | zero =>
  intro j hj
  refine Ev.step1 fun k=>?_
  simp only [spec_Truth.l0]
  rw [if_neg (by omega),show j=es.length by omega]
 | succ d ih =>
  intro j hj
  have h2:=ih (j+1) (by omega)
  rw [List.range_succ,List.map_append,List.map_singleton] at h2
  refine Ev.step (fun k=>by simp only [spec_Truth.l0,wrap_succ (show j<9223372036854775807 by omega),Option.bind_some,Int.toNat_natCast];rw [if_pos (by omega),if_pos (by omega),if_pos (by omega),if_pos (by omega),if_pos (by omega)]) ?_
  exact specTruth_l1 hl _ (by simp;omega) _ j (by omega) (es.take (j+1)) (by simp;omega) (es.take (j+1)).length 0 (row0 n) (by omega) (by simp [row0]) h2
theorem specTruth_ev (n:Int) (l:List S88) (es:List S56):Ev (fun k=>spec_Truth.f k n l es) (truth n l es):=by
 unfold spec_Truth.f truth
 refine Ev.bind (specLayoutOk_ev n l) ?_
 have key:∀ b:Bool,b=!(decide (layoutOk n l=0∧es.length≤2000))→Ev (fun k=>spec_Truth.j0 k es b n l) (if layoutOk n l=0∧es.length≤2000 then (List.range es.length).map fun k=>truthAt n l es (k+1) else []):=by
  intro b hb
  refine Ev.step (fun k=>by simp only [spec_Truth.j0];rfl) ?_
  by_cases h:layoutOk n l=0∧es.length≤2000
  ·rw [if_pos h]
   refine Ev.ite_neg (by simp [hb,h]) ?_
   simpa using specTruth_l0 h.1 h.2 es.length 0 (by omega)
  rw [if_neg h]
  exact Ev.ite_pos (by rw [hb,decide_eq_false h];rfl) (Ev.now _)
 by_cases h:layoutOk n l=0
 ·refine Ev.ite_pos h (key _ ?_)
  by_cases h2:es.length≤2000
  ·rw [show decide ((es.length:Int) > 2000)=false from decide_eq_false (by omega),decide_eq_true (show layoutOk n l=0∧es.length≤2000 from ⟨h,h2⟩)];rfl
  rw [show decide ((es.length:Int) > 2000)=true from decide_eq_true (by omega),decide_eq_false (show ¬ (layoutOk n l=0∧es.length≤2000) from fun c=>h2 c.2)];rfl
 exact Ev.ite_neg h (key _ (by simp [h]))
end
section
variable {n : Int} {l : List S88} {es : List S56} {R : List (List Int)}
theorem clone_int (l:List Int) (h:l.length≤1000000):slices_Clone_int_int.f l=some l:=by unfold slices_Clone_int_int.f;rw [if_pos h]
theorem implTruth_j2 (hl:layoutOk n l=0) (out:List (List Int)) (ho:out.length<5864062014805) (row:List Int) (hrow:row.length=n.toNat) (x22:Int) (i:Nat) (hi:i<9223372036854775807) (e:S56) (b:Bool) (hb:b=isPass n l e)
  (h:Ev (fun k=>impl_Truth.l0 k (tstep n l row e) (out ++ [tstep n l row e]) es x22 ((i+1:Nat):Int) n l) R) :
  Ev (fun k=>impl_Truth.j2 k row out es x22 (i:Int) b n l e.f0 e.f1 e.f2) R:=by
 have hn:=lay_n hl
 have hlen:=tstep_length n l row e
 refine Ev.step (fun k=>by simp only [impl_Truth.j2,wrap_succ hi];rfl) ?_
 cases hp:isPass n l e with
 | false =>
  rw [hp] at hb
  simp only [tstep,hp] at h hlen
  exact Ev.ite_neg (by simp [hb]) (Ev.call (clone_int _ (by omega)) (Ev.ite_pos ho h))
 | true =>
  rw [hp] at hb
  obtain ⟨e0,e1,e2,e3,e4⟩:=isPass_of hp
  obtain ⟨c0,c1,c2,c3,c4⟩:=lay_rd hl e.f1 e1 e2
  refine Ev.ite_pos hb (Ev.ite_pos e1 (Ev.ite_pos e2 ?_))
  simp only [tstep,hp,if_true,axle] at h hlen
  by_cases h0:0≤(rd_T88 l e.f1).f0
  ·simp only [h0,if_true] at h hlen
   refine Ev.ite_pos h0 (Ev.ite_pos h0 (Ev.ite_pos (by rw [hrow];omega) ?_))
   simp only [Option.bind_some]
   by_cases h1:0≤(rd_T88 l e.f1).f1
   ·simp only [h1,if_true] at h hlen
    exact Ev.ite_pos h1 (Ev.ite_pos h1 (Ev.ite_pos (by rw [hrow];omega) (Ev.call (clone_int _ (by omega)) (Ev.ite_pos ho h))))
   simp only [h1,if_false] at h hlen
   exact Ev.ite_neg h1 (Ev.call (clone_int _ (by omega)) (Ev.ite_pos ho h))
  simp only [h0,if_false] at h hlen
  refine Ev.ite_neg h0 ?_
  by_cases h1:0≤(rd_T88 l e.f1).f1
  ·simp only [h1,if_true] at h hlen
   exact Ev.ite_pos h1 (Ev.ite_pos h1 (Ev.ite_pos (by rw [hrow];omega) (Ev.call rfl (Ev.call (clone_int _ (by omega)) (Ev.ite_pos ho h)))))
  simp only [h1,if_false] at h hlen
  exact Ev.ite_neg h1 (Ev.call (clone_int _ (by omega)) (Ev.ite_pos ho h))
theorem truthAt_succ {j:Nat} (h:j<es.length):truthAt n l es (j+1)=tstep n l (truthAt n l es j) es[j]:=by
 rw [truthAt,List.take_succ_eq_append_getElem h,List.foldl_append]
 rfl
theorem implTruth_l0 (hl:layoutOk n l=0) (he:es.length≤2000) (d:Nat):∀ (j:Nat),j+d=es.length →
  Ev (fun k=>impl_Truth.l0 k (truthAt n l es j) ((List.range j).map fun k=>truthAt n l es (k+1)) es (es.length:Int) (j:Int) n l) ((List.range es.length).map fun k=>truthAt n l es (k+1)):=by
 induction d with
 | zero =>
  intro j hj
  refine Ev.step1 fun k=>?_
  simp only [impl_Truth.l0]
  rw [if_neg (by omega),show j=es.length by omega]
 | succ d ih =>
  intro j hj
  have hlt:j<es.length:=by omega
  have h2:=ih (j+1) (by omega)
  rw [List.range_succ,List.map_append,List.map_singleton,truthAt_succ hlt] at h2
  refine Ev.step (fun k=>by simp only [impl_Truth.l0,rd56 es j hlt];rw [if_pos (by omega),if_pos (by omega),if_pos (by omega)]) ?_
  refine Ev.bind (implEventOk_ev n l _ _ _) ?_
  cases hok:eventOk n l es[j].f0 es[j].f1 es[j].f2 with
  | true=>exact Ev.ite_pos rfl (implTruth_j2 hl _ (by simp;omega) _ (truthAt_length _ _ _ _) _ j (by omega) es[j] _ (by simp [isPass,hok,beq_dec]) h2)
  | false=>exact Ev.ite_neg (by simp) (implTruth_j2 hl _ (by simp;omega) _ (truthAt_length _ _ _ _) _ j (by omega) es[j] _ (by simp [isPass,hok]) h2)
theorem implTruth_ev (n:Int) (l:List S88) (es:List S56):Ev (fun k=>impl_Truth.f k n l es) (truth n l es):=by
 unfold impl_Truth.f truth
 refine Ev.call (show impl_LayoutOk.f n l=some (layoutOk n l) from rfl) ?_
 have key:∀ b:Bool,b=!(decide (layoutOk n l=0∧es.length≤2000))→Ev (fun k=>impl_Truth.j0 k es b n l) (if layoutOk n l=0∧es.length≤2000 then (List.range es.length).map fun k=>truthAt n l es (k+1) else []):=by
  intro b hb
  refine Ev.step (fun k=>by simp only [impl_Truth.j0];rfl) ?_
  by_cases h:layoutOk n l=0∧es.length≤2000
  ·have hn:=lay_n h.1
   rw [if_pos h]
   refine Ev.ite_neg (by simp [hb,h]) (Ev.ite_pos (by omega) (Ev.ite_pos (by omega) ?_))
   simpa [truthAt,row0] using implTruth_l0 h.1 h.2 es.length 0 (by omega)
  rw [if_neg h]
  exact Ev.ite_pos (by rw [hb,decide_eq_false h];rfl) (Ev.now _)
 by_cases h:layoutOk n l=0
 ·refine Ev.ite_pos h (key _ ?_)
  by_cases h2:es.length≤2000
  ·rw [show decide ((es.length:Int) > 2000)=false from decide_eq_false (by omega),decide_eq_true (show layoutOk n l=0∧es.length≤2000 from ⟨h,h2⟩)];rfl
  rw [show decide ((es.length:Int) > 2000)=true from decide_eq_true (by omega),decide_eq_false (show ¬ (layoutOk n l=0∧es.length≤2000) from fun c=>h2 c.2)];rfl
 exact Ev.ite_neg h (key _ (by simp [h]))
end
end Go.Proofs.Ytpdnabhpkdchjaa.P
namespace Go.Proofs.Ytpdnabhpkdchjaa.P
open Go.RowKit Go.Proofs.YtpdnabhpkdchjaaW.PrintWords Go.Proofs.YtpdnabhpkdchjaaW.PrintLast Go.Proofs.YtpdnabhpkdchjaaW.PrintMore
set_option linter.unusedVariables false
def runStep (n:Int) (l:List S88) (s:S46) (e:S56):S48 :=
 if eventOk n l e.f0 e.f1 e.f2=true then ⟨doCode l s.f1 s.f2 e.f0 e.f1,⟨true,doSecs l s.f1 s.f2 e.f0 e.f1 e.f2,doDead l s.f1 s.f2 e.f0 e.f1⟩⟩ else ⟨1,⟨true,s.f1,s.f2⟩⟩
def st0 (n:Int) (l:List S88):S46:=⟨true,List.replicate n.toNat z50,List.replicate l.length false⟩
def stAt (n:Int) (l:List S88) (es:List S56) (k:Nat):S46:=(es.take k).foldl (fun s e=>(runStep n l s e).f1) (st0 n l)
def runTo (n:Int) (l:List S88) (es:List S56) (k:Nat):List S48:=(List.range k).map fun j=>runStep n l (stAt n l es j) (rd_T56 es (j:Int))
def run (n:Int) (l:List S88) (es:List S56):List S48:=if layoutOk n l=0∧es.length≤2000 then runTo n l es es.length else []
theorem runTo_length (n:Int) (l:List S88) (es:List S56) (k:Nat):(runTo n l es k).length=k:=by simp [runTo]
theorem runTo_succ (n:Int) (l:List S88) (es:List S56) (k:Nat):runTo n l es (k+1)=runTo n l es k ++ [runStep n l (stAt n l es k) (rd_T56 es (k:Int))]:=by
 simp [runTo,List.range_succ]
theorem stAt_succ (n:Int) (l:List S88) (es:List S56) (k:Nat) (h:k<es.length):stAt n l es (k+1)=(runStep n l (stAt n l es k) (rd_T56 es (k:Int))).f1:=by
 rw [stAt,List.take_succ_eq_append_getElem h,List.foldl_append,rd56 es k h]
 rfl
theorem stAt_zero (n:Int) (l:List S88) (es:List S56):stAt n l es 0=st0 n l:=by simp [stAt]
theorem runStep_len (n:Int) (l:List S88) (s:S46) (e:S56):(runStep n l s e).f1.f1.length=s.f1.length∧(runStep n l s e).f1.f2.length=s.f2.length∧(runStep n l s e).f1.f0=true:=by
 unfold runStep
 split
 ·exact ⟨doSecs_length _ _ _ _ _ _,doDead_length _ _ _ _ _,rfl⟩
 exact ⟨rfl,rfl,rfl⟩
theorem stAt_len (n:Int) (l:List S88) (es:List S56) (k:Nat):(stAt n l es k).f1.length=n.toNat∧(stAt n l es k).f2.length=l.length∧(stAt n l es k).f0=true:=by
 unfold stAt
 have h:∀ (es:List S56) (s:S46),s.f1.length=n.toNat∧s.f2.length=l.length∧s.f0=true→(es.foldl (fun s e=>(runStep n l s e).f1) s).f1.length=n.toNat∧(es.foldl (fun s e=>(runStep n l s e).f1) s).f2.length=l.length∧(es.foldl (fun s e=>(runStep n l s e).f1) s).f0=true:=by
  intro es
  induction es with
  | nil=>intro s h;exact h
  | cons e es ih =>
   intro s h
   have:=runStep_len n l s e
   exact ih _ ⟨by rw [this.1];exact h.1,by rw [this.2.1];exact h.2.1,this.2.2⟩
 exact h _ _ ⟨by simp [st0],by simp [st0],rfl⟩
def secFine (l:List S88) (dd:List Bool) (s:Int) (x:S50):Bool:=secRange x && secRest (deadAt l dd s) x
theorem fine_iff (l:List S88) (dd:List Bool) (s:Int) (x:S50):secFine l dd s x=true ↔ (-1000000≤x.f1∧x.f1≤1000000∧-1≤x.f4∧x.f4≤1)∧((x.f1<0 ∨ deadAt l dd s=true)→x.f2=true)∧(x.f3=true∧x.f1=0∧x.f4=-1→x.f2=true):=by
 simp only [secFine,secRange,secRest,Bool.and_eq_true,decide_eq_true_eq,Bool.not_eq_true',Bool.and_eq_false_iff,Bool.or_eq_false_iff,Bool.not_eq_false',decide_eq_false_iff_not]
 cases x.f2 <;> cases x.f3 <;> cases deadAt l dd s <;> simp <;> omega
theorem ok_iff (l:List S88) (dd:List Bool) (s:Int) (x:S50):secOk l dd s x=true ↔ x.f0=toldC l dd s x∧secFine l dd s x=true:=by
 simp only [secOk,secFine,Bool.and_eq_true,decide_eq_true_eq]
 exact ⟨fun h=>⟨h.1.2,h.1.1,h.2⟩,fun h=>⟨⟨h.2.1,h.1⟩,h.2.2⟩⟩
theorem tell_ok {l:List S88} {dd:List Bool} {i:Nat} {x:S50} (h:secFine l dd (i:Int) x=true):secOk l dd (i:Int) (tellS l dd i x)=true:=by
 rw [ok_iff]
 exact ⟨rfl,h⟩
theorem retold_get (l:List S88) (dd:List Bool) (ss:List S50) (i:Nat) (h:i<ss.length):rd_T50 (retold l dd ss) (i:Int)=tellS l dd i (rd_T50 ss (i:Int)):=by
 simp [rd_T50,retold,retoldTo,h]
theorem retold_fine {l:List S88} {dd:List Bool} {ss:List S50} (h:∀ j,j<ss.length→secFine l dd (j:Int) (rd_T50 ss (j:Int))=true):∀ j,j<(retold l dd ss).length→secOk l dd (j:Int) (rd_T50 (retold l dd ss) (j:Int))=true:=by
 intro j hj
 rw [retold_length] at hj
 rw [retold_get l dd ss j hj]
 exact tell_ok (h j hj)
theorem count_fine {l:List S88} {dd:List Bool} {s:Int} {x:S50} {b:Int} (hb:b=1 ∨ b=-1) (h:secFine l dd s x=true):secFine l dd s (countS x b)=true:=by
 rw [fine_iff] at h ⊢
 obtain ⟨⟨h1,h2,h3,h4⟩,h5,h6⟩:=h
 have hc:-1000000≤cntN x b∧cntN x b≤1000000:=by
  unfold cntN
  split
  ·rename_i h;exact h
  exact ⟨h1,h2⟩
 simp only [countS]
 refine ⟨⟨hc.1,hc.2,by omega,by omega⟩,fun h=>?_,fun h=>?_⟩
 ·rcases h with h|h
  ·rw [decide_eq_true h,Bool.or_true]
  rw [h5 (.inr h),Bool.true_or]
 obtain ⟨k1,k2,k3⟩:=h
 rw [k2,k3] at k1
 simp at k1
theorem addS_get (ss:List S50) (s b:Int) (j:Nat) (hj:j<ss.length):rd_T50 (addS ss s b) (j:Int)=if s=(j:Int) then countS (rd_T50 ss (j:Int)) b else rd_T50 ss (j:Int):=by
 unfold addS
 by_cases h:s<0
 ·rw [if_pos h,if_neg (by omega)]
 rw [if_neg h]
 by_cases e:s=(j:Int)
 ·subst e
  simp [rd_T50,hj]
 have:s.toNat ≠ j:=by omega
 rw [if_neg e]
 simp [rd_T50,List.getElem?_set_ne this]
theorem loseAt_get (ss:List S50) (s:Int) (j:Nat) (hj:j<ss.length):rd_T50 (loseAt ss s) (j:Int)=if s=(j:Int) then loseS (rd_T50 ss (j:Int)) else rd_T50 ss (j:Int):=by
 unfold loseAt
 by_cases h:s<0
 ·rw [if_pos h,if_neg (by omega)]
 rw [if_neg h]
 by_cases e:s=(j:Int)
 ·subst e
  simp [rd_T50,hj]
 have:s.toNat ≠ j:=by omega
 rw [if_neg e]
 simp [rd_T50,List.getElem?_set_ne this]
theorem add_fine {l:List S88} {dd:List Bool} {ss:List S50} {s b:Int} (hb:b=1 ∨ b=-1) (h:∀ j,j<ss.length→secFine l dd (j:Int) (rd_T50 ss (j:Int))=true):∀ j,j<(addS ss s b).length→secFine l dd (j:Int) (rd_T50 (addS ss s b) (j:Int))=true:=by
 intro j hj
 rw [addS_length] at hj
 rw [addS_get ss s b j hj]
 split
 ·exact count_fine hb (h j hj)
 exact h j hj
theorem deadFrom_mono {l:List S88} {dd dd':List Bool} {s:Int} (h:∀ i:Nat,rdOf false dd' (i:Int)=true→hits s (rd_T88 l (i:Int))=true→rdOf false dd (i:Int)=true):∀ d i,deadFrom l dd' s d i=true→deadFrom l dd s d i=true:=by
 intro d
 induction d with
 | zero=>intro i hd;exact hd
 | succ d ih =>
  intro i hd
  simp only [deadFrom,Bool.or_eq_true,Bool.and_eq_true] at hd ⊢
  rcases hd with ⟨h1,h2⟩|h1
  ·exact .inl ⟨h i h1 h2,h2⟩
  exact .inr (ih _ h1)
theorem rdOf_set (dd:List Bool) (k i:Nat) (b:Bool):rdOf false (dd.set k b) (i:Int)=if k=i∧i<dd.length then b else rdOf false dd (i:Int):=by
 unfold rdOf
 simp only [Int.toNat_natCast,List.getD_eq_getElem?_getD,List.getElem?_set]
 by_cases e:k=i
 ·subst e
  by_cases h:k<dd.length
  ·simp [h]
  simp [h]
 simp [e]
theorem dead_less {l:List S88} {dd:List Bool} {s:Int} {k:Nat} (h:deadAt l (dd.set k false) s=true):deadAt l dd s=true:=by
 refine deadFrom_mono (fun i h1 _=>?_) _ _ h
 rw [rdOf_set] at h1
 split at h1
 ·cases h1
 exact h1
theorem dead_more {l:List S88} {dd:List Bool} {s:Int} {k:Nat} (h:deadAt l (dd.set k true) s=true) (hn:hits s (rd_T88 l (k:Int))=false):deadAt l dd s=true:=by
 refine deadFrom_mono (fun i h1 h2=>?_) _ _ h
 rw [rdOf_set] at h1
 split at h1
 ·rename_i e
  rw [← e.1,hn] at h2
  cases h2
 exact h1
theorem lose_fine {l:List S88} {dd dd':List Bool} {s:Int} {x:S50} (h:secFine l dd s x=true):secFine l dd' s (loseS x)=true:=by
 rw [fine_iff] at h ⊢
 exact ⟨h.1,fun _=>rfl,fun _=>rfl⟩
theorem fine_dead {l:List S88} {dd dd':List Bool} {s:Int} {x:S50} (hd:deadAt l dd' s=true→deadAt l dd s=true) (h:secFine l dd s x=true):secFine l dd' s x=true:=by
 rw [fine_iff] at h ⊢
 exact ⟨h.1,fun k=>h.2.1 (k.imp id hd),h.2.2⟩
theorem do_fine {n:Int} {l:List S88} {ss:List S50} {dd:List Bool} {op of dir:Int} (hl:layoutOk n l=0) (hd:dd.length=l.length) (h:∀ j,j<ss.length→secFine l dd (j:Int) (rd_T50 ss (j:Int))=true) (hev:eventOk n l op of dir=true) (hc:doCode l ss dd op of=0) :
  ∀ j,j<(midSecs l ss op of dir).length→secFine l (midDead dd op of) (j:Int) (rd_T50 (midSecs l ss op of dir) (j:Int))=true:=by
 have key:((op=1 ∨ op=2)∧0≤of∧of<(l.length:Int)) ∨ ((op=3 ∨ op=4)∧0≤of∧of<(l.length:Int)) ∨ (op=5∧0≤of∧of<n):=by
  unfold eventOk at hev
  rw [if_pos hl] at hev
  split at hev
  ·rename_i h1;simp at hev;exact .inl ⟨h1,hev.1.1,hev.1.2⟩
  split at hev
  ·rename_i h1;simp at hev;exact .inr (.inl ⟨h1,hev.1.1,hev.1.2⟩)
  split at hev
  ·rename_i h1;simp at hev;exact .inr (.inr ⟨h1,hev.1.1,hev.1.2⟩)
  cases hev
 rcases key with ⟨rfl|rfl,o0,o1⟩|⟨rfl|rfl,o0,o1⟩|⟨rfl,o0,o1⟩
 ·have e1:midSecs l ss 1 of dir=addS (addS ss (if dir=-1 then (rd_T88 l of).f1 else (rd_T88 l of).f0) (-1)) (if dir=-1 then (rd_T88 l of).f0 else (rd_T88 l of).f1) 1:=by simp [midSecs]
  have e2:midDead dd 1 of=dd:=by simp [midDead]
  rw [e1,e2]
  exact add_fine (.inl rfl) (add_fine (.inr rfl) h)
 ·have e1:midSecs l ss 2 of dir=addS ss (if dir=-1 then (rd_T88 l of).f0 else (rd_T88 l of).f1) 1:=by simp [midSecs]
  have e2:midDead dd 2 of=dd:=by simp [midDead]
  rw [e1,e2]
  exact add_fine (.inl rfl) h
 ·have e1:midSecs l ss 3 of dir=loseAt (loseAt ss (rd_T88 l of).f0) (rd_T88 l of).f1:=by simp [midSecs]
  have e2:midDead dd 3 of=dd.set of.toNat true:=by simp [midDead]
  rw [e1,e2]
  intro j hj
  rw [loseAt_length,loseAt_length] at hj
  rw [loseAt_get _ _ _ (by rw [loseAt_length];exact hj),loseAt_get _ _ _ hj]
  by_cases f1:(rd_T88 l of).f1=(j:Int)
  ·rw [if_pos f1]
   split
   ·exact lose_fine (lose_fine (dd':=dd) (h j hj))
   exact lose_fine (h j hj)
  rw [if_neg f1]
  by_cases f0:(rd_T88 l of).f0=(j:Int)
  ·rw [if_pos f0];exact lose_fine (h j hj)
  rw [if_neg f0]
  refine fine_dead (fun hx=>dead_more hx ?_) (h j hj)
  rw [show ((of.toNat:Nat):Int)=of by omega]
  simp [hits,f0,f1]
 ·have e1:midSecs l ss 4 of dir=ss:=by simp [midSecs]
  have e2:midDead dd 4 of=dd.set of.toNat false:=by simp [midDead]
  rw [e1,e2]
  intro j hj
  exact fine_dead dead_less (h j hj)
 have e1:midSecs l ss 5 of dir=ss.set of.toNat ⟨0,0,false,true,0⟩:=by simp [midSecs]
 have e2:midDead dd 5 of=dd:=by simp [midDead]
 rw [e1,e2]
 intro j hj
 rw [List.length_set] at hj
 by_cases e:of.toNat=j
 ·have hdd:deadAt l dd of=false:=by
   cases hx:deadAt l dd of with
   | false=>rfl
   | true =>
    rw [doCode,if_neg (by decide),if_pos rfl,if_pos hx] at hc
    exact absurd hc (by decide)
  have e3:((j:Nat):Int)=of:=by omega
  rw [show rd_T50 (ss.set of.toNat ⟨0,0,false,true,0⟩) (j:Int)=⟨0,0,false,true,0⟩ by subst e;rw [rd_T50,Int.toNat_natCast];simp [hj],e3,fine_iff]
  refine ⟨by simp,fun h=>?_,fun h=>by simp at h⟩
  rw [hdd] at h
  simp at h
 rw [show rd_T50 (ss.set of.toNat ⟨0,0,false,true,0⟩) (j:Int)=rd_T50 ss (j:Int) by simp [rd_T50,List.getElem?_set_ne e]]
 exact h j hj
theorem do_ok {n:Int} {l:List S88} {ss:List S50} {dd:List Bool} {op of dir:Int} (hl:layoutOk n l=0) (hd:dd.length=l.length) (h:∀ j,j<ss.length→secOk l dd (j:Int) (rd_T50 ss (j:Int))=true) (hev:eventOk n l op of dir=true) :
  ∀ j,j<(doSecs l ss dd op of dir).length→secOk l (doDead l ss dd op of) (j:Int) (rd_T50 (doSecs l ss dd op of dir) (j:Int))=true:=by
 by_cases hc:doCode l ss dd op of=0
 ·unfold doSecs doDead
  rw [if_pos hc,if_pos hc]
  exact retold_fine (do_fine hl hd (fun j hj=>((ok_iff _ _ _ _).1 (h j hj)).2) hev hc)
 unfold doSecs doDead
 rw [if_neg hc,if_neg hc]
 exact h
theorem step_ok {n:Int} {l:List S88} {s:S46} {e:S56} (h:stateOk n l s.f0 s.f1 s.f2=true):stateOk n l (runStep n l s e).f1.f0 (runStep n l s e).f1.f1 (runStep n l s e).f1.f2=true:=by
 obtain ⟨hl,ho,hn,hd,hsec⟩:=stateOk_of h
 unfold runStep
 split
 ·rename_i hev
  exact stateOk_mk hl rfl (by rw [doSecs_length];exact hn) (by rw [doDead_length];exact hd) (do_ok hl hd hsec hev)
 exact stateOk_mk hl rfl hn hd hsec
theorem anyFalse (l:List S88) (m:Nat) (s:Int):deadAt l (List.replicate m false) s=false:=by
 have h:∀ d i,deadFrom l (List.replicate m false) s d i=false:=by
  intro d
  induction d with
  | zero=>intro i;rfl
  | succ d ih =>
   intro i
   have hr:rdOf false (List.replicate m false) (i:Int)=false:=by
    simp only [rdOf,List.getD_eq_getElem?_getD,List.getElem?_replicate];split <;> rfl
   simp only [deadFrom,hr,ih,Bool.false_and,Bool.or_self]
 exact h _ _
theorem st0_ok {n:Int} {l:List S88} (hl:layoutOk n l=0):stateOk n l (st0 n l).f0 (st0 n l).f1 (st0 n l).f2=true:=by
 have hn:=lay_n hl
 refine stateOk_mk hl rfl (by simp [st0];omega) (by simp [st0]) (fun j hj=>?_)
 have hz:rd_T50 (List.replicate n.toNat z50) (j:Int)=z50:=by
  simp only [rd_T50,List.getD_eq_getElem?_getD,List.getElem?_replicate];split <;> rfl
 show secOk l (List.replicate l.length false) (j:Int) (rd_T50 (List.replicate n.toNat z50) (j:Int))=true
 rw [hz,ok_iff,fine_iff,toldC,anyFalse]
 simp [z50]
theorem stAt_ok {n:Int} {l:List S88} (hl:layoutOk n l=0) (es:List S56) (k:Nat):stateOk n l (stAt n l es k).f0 (stAt n l es k).f1 (stAt n l es k).f2=true:=by
 unfold stAt
 have h:∀ (es:List S56) (s:S46),stateOk n l s.f0 s.f1 s.f2=true→stateOk n l (es.foldl (fun s e=>(runStep n l s e).f1) s).f0 (es.foldl (fun s e=>(runStep n l s e).f1) s).f1 (es.foldl (fun s e=>(runStep n l s e).f1) s).f2=true:=by
  intro es
  induction es with
  | nil=>intro s h;exact h
  | cons e es ih=>intro s h;exact ih _ (step_ok h)
 exact h _ _ (st0_ok hl)
end Go.Proofs.Ytpdnabhpkdchjaa.P
namespace Go.Proofs.Ytpdnabhpkdchjaa.P
open Go.RowKit Go.Proofs.YtpdnabhpkdchjaaW.PrintWords Go.Proofs.YtpdnabhpkdchjaaW.PrintLast
set_option linter.unusedVariables false
set_option linter.unusedSimpArgs false
section
variable {n : Int} {l : List S88} {es : List S56}
theorem truth_good (hl:layoutOk n l=0) (he:es.length≤2000):truth n l es=(List.range es.length).map fun k=>truthAt n l es (k+1):=by rw [truth,if_pos ⟨hl,he⟩]
theorem truth_len (hl:layoutOk n l=0) (he:es.length≤2000):(truth n l es).length=es.length:=by rw [truth_good hl he];simp
theorem truth_rd (hl:layoutOk n l=0) (he:es.length≤2000) (i:Nat) (hi:i<es.length):rd_L12 (truth n l es) (i:Int)=truthAt n l es (i+1):=by
 rw [truth_good hl he]
 simp [rd_L12,hi]
end
end Go.Proofs.Ytpdnabhpkdchjaa.P
namespace Go.Proofs.Ytpdnabhpkdchjaa.P
open Go.RowKit Go.Proofs.YtpdnabhpkdchjaaW.PrintWords Go.Proofs.YtpdnabhpkdchjaaW.PrintLast Go.Proofs.YtpdnabhpkdchjaaW.PrintMore
attribute [local go_sem] max2_int min2_int max_two min_two max_three min_three max_four min_four
set_option linter.unusedVariables false
set_option linter.unusedSimpArgs false
def laws_eqGap.f (a0_0:Int) (a0_1:Int) (a1_0:Int) (a1_1:Int):Option (Bool):=if a0_0=a1_0 then (if a0_1=a1_1 then (some true) else (some false)) else (some false)
set_option maxHeartbeats 8000000 in
set_option maxRecDepth 100000 in
theorem laws_eqGap.calls (a0_0:Int) (a0_1:Int) (a1_0:Int) (a1_1:Int) (r:Bool) (w:World) (h:laws_eqGap.f a0_0 a0_1 a1_0 a1_1=some r) :
  Calls Try.prog 117 #[.agg #[.int .i64 a0_0,.int .i64 a0_1],.agg #[.int .i64 a1_0,.int .i64 a1_1]] w fun e w'=>e=.returned (.bool r)∧Below w.heap.size w w':=by
 have hu138:=Try.underlying138
 have HB:=Aside0.mk (Below.refl w.heap.size w)
 have H:(if a0_0=a1_0 then (if a0_1=a1_1 then (some true) else (some false)) else (some false))=some r:=h
 clear h
 by_cases c3:a0_0=a1_0
 ·rw [if_pos c3] at H
  have c3b0:(a0_0==a1_0)=true:=beq_iff_eq.mpr c3
  have c3b1:(a0_0 != a1_0)=false:=bne_eq_false_iff_eq.mpr c3
  clear c3
  by_cases c4:a0_1=a1_1
  ·rw [if_pos c4] at H
   have c4b0:(a0_1==a1_1)=true:=beq_iff_eq.mpr c4
   have c4b1:(a0_1 != a1_1)=false:=bne_eq_false_iff_eq.mpr c4
   clear c4
   obtain rfl:=Option.some.inj H
   go_enter Try.func117,Try.ntmps117
   go_wp2_with (first|((with_reducible refine gate_dst (N:=2) rfl ?_);refine box_event ?hg (N:=2) ?hd (cs:=#[.int .i64 a0_0,.int .i64 a0_1]) (t:=138) ?hr ?_;(case hd=>rfl);(case hg=>rfl);(case hr=>first|(go_simp;done)|(go_simp;rfl));intro gb854 hg w5 hbox hb;have n0_:=Aside0.mk (below_step (by repeat (first|(with_reducible first|exact HB.out|apply below_alloc|apply pw_below_drewN|apply below_drew1)|exact HB.out)) hb);have n1_:=Aside0.mk (hbox);have n2_:=Aside0.mk ((by rw [hg];exact (below_size (by repeat (first|(with_reducible first|exact HB.out|apply below_alloc|apply pw_below_drewN|apply below_drew1)|exact HB.out))):w.heap.size≤gb854));have n3_:=Aside0.mk ((by rw [hg];exact (below_size (by repeat (first|(with_reducible first|exact HB.out|apply below_alloc|apply pw_below_drewN|apply below_drew1)|exact HB.out))):w.heap.size≤gb854));clear HB;have HB:=n0_;have BK854:=n1_;have GW854:=n2_;have GE854:=n3_;clear n0_ n1_ n2_ n3_;clear hb hbox hg)|((with_reducible refine gate_dst (N:=3) rfl ?_);refine box_event ?hg (N:=3) ?hd (cs:=#[.int .i64 a1_0,.int .i64 a1_1]) (t:=138) ?hr ?_;(case hd=>rfl);(case hg=>rfl);(case hr=>first|(go_simp;done)|(go_simp;rfl));intro gb855 hg w6 hbox hb;have n0_:=Aside0.mk (blk_below (g:=gb854) (o:=.cells #[.int .i64 a0_0,.int .i64 a0_1] 138 (0,0)) (by (with_reducible repeat (first|refine blk_drewN ?_ _|refine blk_drew ?_|refine blk_alloc ?_ _));exact BK854.out) hb);have n1_:=Aside0.mk (below_step (by repeat (first|(with_reducible first|exact HB.out|apply below_alloc|apply pw_below_drewN|apply below_drew1|refine below_set ?_ GE854.out)|exact HB.out)) hb);have n2_:=Aside0.mk (hbox);have n3_:=Aside0.mk ((by rw [hg];exact (below_size (by repeat (first|(with_reducible first|exact HB.out|apply below_alloc|apply pw_below_drewN|apply below_drew1|refine below_set ?_ GE854.out)|exact HB.out))):w.heap.size≤gb855));have n4_:=Aside0.mk ((by rw [hg];exact (below_size (by repeat (first|(with_reducible first|exact HB.out|apply below_alloc|apply pw_below_drewN|apply below_drew1|refine below_set ?_ GE854.out)|exact HB.out))):w.heap.size≤gb855));have n5_:=Aside0.mk ((by rw [hg];exact Nat.ne_of_lt (blk_lt (g:=gb854) (o:=.cells #[.int .i64 a0_0,.int .i64 a0_1] 138 (0,0)) (by (with_reducible repeat (first|refine blk_drewN ?_ _|refine blk_drew ?_|refine blk_alloc ?_ _));exact BK854.out)):gb854 ≠ gb855));have n6_:=Aside0.mk ((by rw [hg];exact Nat.ne_of_gt (blk_lt (g:=gb854) (o:=.cells #[.int .i64 a0_0,.int .i64 a0_1] 138 (0,0)) (by (with_reducible repeat (first|refine blk_drewN ?_ _|refine blk_drew ?_|refine blk_alloc ?_ _));exact BK854.out)):gb855 ≠ gb854));clear BK854;clear HB;have BK854:=n0_;have HB:=n1_;have BK855:=n2_;have GW855:=n3_;have GE855:=n4_;have NB854_855:=n5_;have NB855_854:=n6_;clear n0_ n1_ n2_ n3_ n4_ n5_ n6_;clear hb hbox hg;have hnb7:=NB854_855.out;have hnc7:=NB855_854.out;have hcz8_0:w6.cell? ⟨gb854,0,none⟩=some (.int .i64 a0_0):=(blk_cell BK854.out 0).trans rfl;have hcz8_1:w6.cell? ⟨gb854,1,none⟩=some (.int .i64 a0_1):=(blk_cell BK854.out 1).trans rfl;have hfz8_0:=blk_frozen BK854.out 0;have hfz8_1:=blk_frozen BK854.out 1;have hcz9_0:w6.cell? ⟨gb855,0,none⟩=some (.int .i64 a1_0):=(blk_cell BK855.out 0).trans rfl;have hcz9_1:w6.cell? ⟨gb855,1,none⟩=some (.int .i64 a1_1):=(blk_cell BK855.out 1).trans rfl;have hfz9_0:=blk_frozen BK855.out 0;have hfz9_1:=blk_frozen BK855.out 1))
   go_ret
   exact ⟨by first|rfl|(simp [errW_none,errW_some] <;> rfl)|(simp [*,errW_none,errW_some] <;> rfl),by repeat (first|(with_reducible first|exact HB.out|apply below_alloc|apply pw_below_drewN|apply below_drew1|refine below_set ?_ GE854.out|refine below_set ?_ GE855.out)|exact HB.out)⟩
  rw [if_neg c4] at H
  have c4b0:(a0_1==a1_1)=false:=beq_eq_false_iff_ne.mpr c4
  have c4b1:(a0_1 != a1_1)=true:=bne_iff_ne.mpr c4
  obtain rfl:=Option.some.inj H
  go_enter Try.func117,Try.ntmps117
  go_wp2_with (first|((with_reducible refine gate_dst (N:=2) rfl ?_);refine box_event ?hg (N:=2) ?hd (cs:=#[.int .i64 a0_0,.int .i64 a0_1]) (t:=138) ?hr ?_;(case hd=>rfl);(case hg=>rfl);(case hr=>first|(go_simp;done)|(go_simp;rfl));intro gb854 hg w10 hbox hb;have n0_:=Aside0.mk (below_step (by repeat (first|(with_reducible first|exact HB.out|apply below_alloc|apply pw_below_drewN|apply below_drew1)|exact HB.out)) hb);have n1_:=Aside0.mk (hbox);have n2_:=Aside0.mk ((by rw [hg];exact (below_size (by repeat (first|(with_reducible first|exact HB.out|apply below_alloc|apply pw_below_drewN|apply below_drew1)|exact HB.out))):w.heap.size≤gb854));have n3_:=Aside0.mk ((by rw [hg];exact (below_size (by repeat (first|(with_reducible first|exact HB.out|apply below_alloc|apply pw_below_drewN|apply below_drew1)|exact HB.out))):w.heap.size≤gb854));clear HB;have HB:=n0_;have BK854:=n1_;have GW854:=n2_;have GE854:=n3_;clear n0_ n1_ n2_ n3_;clear hb hbox hg)|((with_reducible refine gate_dst (N:=3) rfl ?_);refine box_event ?hg (N:=3) ?hd (cs:=#[.int .i64 a1_0,.int .i64 a1_1]) (t:=138) ?hr ?_;(case hd=>rfl);(case hg=>rfl);(case hr=>first|(go_simp;done)|(go_simp;rfl));intro gb855 hg w11 hbox hb;have n0_:=Aside0.mk (blk_below (g:=gb854) (o:=.cells #[.int .i64 a0_0,.int .i64 a0_1] 138 (0,0)) (by (with_reducible repeat (first|refine blk_drewN ?_ _|refine blk_drew ?_|refine blk_alloc ?_ _));exact BK854.out) hb);have n1_:=Aside0.mk (below_step (by repeat (first|(with_reducible first|exact HB.out|apply below_alloc|apply pw_below_drewN|apply below_drew1|refine below_set ?_ GE854.out)|exact HB.out)) hb);have n2_:=Aside0.mk (hbox);have n3_:=Aside0.mk ((by rw [hg];exact (below_size (by repeat (first|(with_reducible first|exact HB.out|apply below_alloc|apply pw_below_drewN|apply below_drew1|refine below_set ?_ GE854.out)|exact HB.out))):w.heap.size≤gb855));have n4_:=Aside0.mk ((by rw [hg];exact (below_size (by repeat (first|(with_reducible first|exact HB.out|apply below_alloc|apply pw_below_drewN|apply below_drew1|refine below_set ?_ GE854.out)|exact HB.out))):w.heap.size≤gb855));have n5_:=Aside0.mk ((by rw [hg];exact Nat.ne_of_lt (blk_lt (g:=gb854) (o:=.cells #[.int .i64 a0_0,.int .i64 a0_1] 138 (0,0)) (by (with_reducible repeat (first|refine blk_drewN ?_ _|refine blk_drew ?_|refine blk_alloc ?_ _));exact BK854.out)):gb854 ≠ gb855));have n6_:=Aside0.mk ((by rw [hg];exact Nat.ne_of_gt (blk_lt (g:=gb854) (o:=.cells #[.int .i64 a0_0,.int .i64 a0_1] 138 (0,0)) (by (with_reducible repeat (first|refine blk_drewN ?_ _|refine blk_drew ?_|refine blk_alloc ?_ _));exact BK854.out)):gb855 ≠ gb854));clear BK854;clear HB;have BK854:=n0_;have HB:=n1_;have BK855:=n2_;have GW855:=n3_;have GE855:=n4_;have NB854_855:=n5_;have NB855_854:=n6_;clear n0_ n1_ n2_ n3_ n4_ n5_ n6_;clear hb hbox hg;have hnb12:=NB854_855.out;have hnc12:=NB855_854.out;have hcz13_0:w11.cell? ⟨gb854,0,none⟩=some (.int .i64 a0_0):=(blk_cell BK854.out 0).trans rfl;have hcz13_1:w11.cell? ⟨gb854,1,none⟩=some (.int .i64 a0_1):=(blk_cell BK854.out 1).trans rfl;have hfz13_0:=blk_frozen BK854.out 0;have hfz13_1:=blk_frozen BK854.out 1;have hcz14_0:w11.cell? ⟨gb855,0,none⟩=some (.int .i64 a1_0):=(blk_cell BK855.out 0).trans rfl;have hcz14_1:w11.cell? ⟨gb855,1,none⟩=some (.int .i64 a1_1):=(blk_cell BK855.out 1).trans rfl;have hfz14_0:=blk_frozen BK855.out 0;have hfz14_1:=blk_frozen BK855.out 1))
  go_ret
  exact ⟨by first|rfl|(simp [errW_none,errW_some] <;> rfl)|(simp [*,errW_none,errW_some] <;> rfl),by repeat (first|(with_reducible first|exact HB.out|apply below_alloc|apply pw_below_drewN|apply below_drew1|refine below_set ?_ GE854.out|refine below_set ?_ GE855.out)|exact HB.out)⟩
 rw [if_neg c3] at H
 have c3b0:(a0_0==a1_0)=false:=beq_eq_false_iff_ne.mpr c3
 have c3b1:(a0_0 != a1_0)=true:=bne_iff_ne.mpr c3
 obtain rfl:=Option.some.inj H
 go_enter Try.func117,Try.ntmps117
 go_wp2_with (first|((with_reducible refine gate_dst (N:=2) rfl ?_);refine box_event ?hg (N:=2) ?hd (cs:=#[.int .i64 a0_0,.int .i64 a0_1]) (t:=138) ?hr ?_;(case hd=>rfl);(case hg=>rfl);(case hr=>first|(go_simp;done)|(go_simp;rfl));intro gb854 hg w15 hbox hb;have n0_:=Aside0.mk (below_step (by repeat (first|(with_reducible first|exact HB.out|apply below_alloc|apply pw_below_drewN|apply below_drew1)|exact HB.out)) hb);have n1_:=Aside0.mk (hbox);have n2_:=Aside0.mk ((by rw [hg];exact (below_size (by repeat (first|(with_reducible first|exact HB.out|apply below_alloc|apply pw_below_drewN|apply below_drew1)|exact HB.out))):w.heap.size≤gb854));have n3_:=Aside0.mk ((by rw [hg];exact (below_size (by repeat (first|(with_reducible first|exact HB.out|apply below_alloc|apply pw_below_drewN|apply below_drew1)|exact HB.out))):w.heap.size≤gb854));clear HB;have HB:=n0_;have BK854:=n1_;have GW854:=n2_;have GE854:=n3_;clear n0_ n1_ n2_ n3_;clear hb hbox hg)|((with_reducible refine gate_dst (N:=3) rfl ?_);refine box_event ?hg (N:=3) ?hd (cs:=#[.int .i64 a1_0,.int .i64 a1_1]) (t:=138) ?hr ?_;(case hd=>rfl);(case hg=>rfl);(case hr=>first|(go_simp;done)|(go_simp;rfl));intro gb855 hg w16 hbox hb;have n0_:=Aside0.mk (blk_below (g:=gb854) (o:=.cells #[.int .i64 a0_0,.int .i64 a0_1] 138 (0,0)) (by (with_reducible repeat (first|refine blk_drewN ?_ _|refine blk_drew ?_|refine blk_alloc ?_ _));exact BK854.out) hb);have n1_:=Aside0.mk (below_step (by repeat (first|(with_reducible first|exact HB.out|apply below_alloc|apply pw_below_drewN|apply below_drew1|refine below_set ?_ GE854.out)|exact HB.out)) hb);have n2_:=Aside0.mk (hbox);have n3_:=Aside0.mk ((by rw [hg];exact (below_size (by repeat (first|(with_reducible first|exact HB.out|apply below_alloc|apply pw_below_drewN|apply below_drew1|refine below_set ?_ GE854.out)|exact HB.out))):w.heap.size≤gb855));have n4_:=Aside0.mk ((by rw [hg];exact (below_size (by repeat (first|(with_reducible first|exact HB.out|apply below_alloc|apply pw_below_drewN|apply below_drew1|refine below_set ?_ GE854.out)|exact HB.out))):w.heap.size≤gb855));have n5_:=Aside0.mk ((by rw [hg];exact Nat.ne_of_lt (blk_lt (g:=gb854) (o:=.cells #[.int .i64 a0_0,.int .i64 a0_1] 138 (0,0)) (by (with_reducible repeat (first|refine blk_drewN ?_ _|refine blk_drew ?_|refine blk_alloc ?_ _));exact BK854.out)):gb854 ≠ gb855));have n6_:=Aside0.mk ((by rw [hg];exact Nat.ne_of_gt (blk_lt (g:=gb854) (o:=.cells #[.int .i64 a0_0,.int .i64 a0_1] 138 (0,0)) (by (with_reducible repeat (first|refine blk_drewN ?_ _|refine blk_drew ?_|refine blk_alloc ?_ _));exact BK854.out)):gb855 ≠ gb854));clear BK854;clear HB;have BK854:=n0_;have HB:=n1_;have BK855:=n2_;have GW855:=n3_;have GE855:=n4_;have NB854_855:=n5_;have NB855_854:=n6_;clear n0_ n1_ n2_ n3_ n4_ n5_ n6_;clear hb hbox hg;have hnb17:=NB854_855.out;have hnc17:=NB855_854.out;have hcz18_0:w16.cell? ⟨gb854,0,none⟩=some (.int .i64 a0_0):=(blk_cell BK854.out 0).trans rfl;have hcz18_1:w16.cell? ⟨gb854,1,none⟩=some (.int .i64 a0_1):=(blk_cell BK854.out 1).trans rfl;have hfz18_0:=blk_frozen BK854.out 0;have hfz18_1:=blk_frozen BK854.out 1;have hcz19_0:w16.cell? ⟨gb855,0,none⟩=some (.int .i64 a1_0):=(blk_cell BK855.out 0).trans rfl;have hcz19_1:w16.cell? ⟨gb855,1,none⟩=some (.int .i64 a1_1):=(blk_cell BK855.out 1).trans rfl;have hfz19_0:=blk_frozen BK855.out 0;have hfz19_1:=blk_frozen BK855.out 1))
 go_ret
 exact ⟨by first|rfl|(simp [errW_none,errW_some] <;> rfl)|(simp [*,errW_none,errW_some] <;> rfl),by repeat (first|(with_reducible first|exact HB.out|apply below_alloc|apply pw_below_drewN|apply below_drew1|refine below_set ?_ GE854.out|refine below_set ?_ GE855.out)|exact HB.out)⟩
end Go.Proofs.Ytpdnabhpkdchjaa.P
namespace Go.Proofs.Ytpdnabhpkdchjaa.P
open Go.RowKit Go.Proofs.YtpdnabhpkdchjaaW.PrintWords Go.Proofs.YtpdnabhpkdchjaaW.PrintLast Go.Proofs.YtpdnabhpkdchjaaW.PrintMore
attribute [local go_sem] max2_int min2_int max_two min_two max_three min_three max_four min_four
set_option linter.unusedVariables false
set_option linter.unusedSimpArgs false
def laws_eqGapS.l0:Nat→List (S138)→List (S138)→Int→Option (Bool)
 | 0,_,_,_=>none
 | k+1,x0,x1,x5=>if x5<(x0.length:Int) then (if 0≤x5 then (if x5<(x1.length:Int) then ((laws_eqGap.f ((rd_T138 x0 x5).f0) ((rd_T138 x0 x5).f1) ((rd_T138 x1 x5).f0) ((rd_T138 x1 x5).f1)).bind fun t858=>(if t858=true then (laws_eqGapS.l0 k x0 x1 (wrap64 (x5+1))) else (some false))) else (none)) else (none)) else (some true)
def laws_eqGapS.f (k:Nat) (l0:List (S138)) (l1:List (S138)):Option (Bool):=if (l0.length:Int)=(l1.length:Int) then (laws_eqGapS.l0 k l0 l1 0) else (some false)
def laws_eqGapS.T6:Bool × List (List Nat × List Nat):=(true,[([],[]),([],[]),([0,1],[0,1]),([2],[2]),([],[]),([],[]),([4,5],[4,5]),([6],[6]),([3,7],[3,7]),([8],[8])])
def laws_eqGapS.B6:List Nat:=[0,0,3,7,0,0,48,112,255,511]
theorem laws_eqGapS.tab6:rtab .any (opsOf Try.f66 6)=laws_eqGapS.T6:=by kernel_rfl
theorem laws_eqGapS.bits6:waitsOk laws_eqGapS.T6.2 laws_eqGapS.B6=true:=by kernel_rfl
set_option maxHeartbeats 8000000 in
set_option maxRecDepth 100000 in
theorem laws_eqGapS.calls (k:Nat) (A0:Option Addr) (c0:Nat) (l0:List (S138)) (A1:Option Addr) (c1:Nat) (l1:List (S138)) (r:Bool) (w:World) (hr0:Kd.C k138 w A0 l0.length l0) (hc0:l0.length≤c0) (hr1:Kd.C k138 w A1 l1.length l1) (hc1:l1.length≤c1) (h:laws_eqGapS.f k l0 l1=some r) :
  Calls Try.prog 66 #[.slice A0 l0.length c0,.slice A1 l1.length c1] w fun e w'=>e=.returned (.bool r)∧Below w.heap.size w w':=by
 have hu138:=Try.underlying138
 have HR0:=Aside0.mk hr0
 have HC0:=Aside0.mk hc0
 clear hr0 hc0
 have HR1:=Aside0.mk hr1
 have HC1:=Aside0.mk hc1
 clear hr1 hc1
 have HB:=Aside0.mk (Below.refl w.heap.size w)
 have H:(if (l0.length:Int)=(l1.length:Int) then (laws_eqGapS.l0 k l0 l1 0) else (some false))=some r:=h
 clear h
 by_cases c3:(l0.length:Int)=(l1.length:Int)
 ·rw [if_pos c3] at H
  have c3b0:((l0.length:Int)==(l1.length:Int))=true:=beq_iff_eq.mpr c3
  have c3b1:((l0.length:Int) != (l1.length:Int))=false:=bne_eq_false_iff_eq.mpr c3
  have c3b2:(l0.length==l1.length)=true:=by first|simpa using c3|(simp at c3 ⊢;omega)
  clear c3
  have H':=Aside0.mk H
  clear H
  go_enter Try.func66,Try.ntmps66
  go_wp2
  go_loopg [5] k (fun kq v5 w'=>∃ (x5_1:Int),v5=.int .i64 x5_1∧Aside0 (laws_eqGapS.l0 kq l0 l1 x5_1=some r)∧Aside0 (kq≤k)∧Aside0 (Below w.heap.size w w'))
  case atStart=>exact ⟨(0),(by first|rfl|(simp;done)|(simp [*];done)),H',⟨Nat.le_refl _⟩,⟨by exact HB.out⟩⟩
  case round =>
   clear H'
   try clear c1
   try clear p2
   try clear c3
   try clear c3b0
   try clear c3b1
   try clear c3b2
   obtain ⟨x5_1,rfl,HA,HK1,HB⟩:=hrel
   cases gk with
   | zero=>exact absurd HA.out (by simp [laws_eqGapS.l0])
   | succ k1 =>
    have H:=HA.out
    clear HA
    simp only [laws_eqGapS.l0] at H
    by_cases c4:x5_1<(l0.length:Int)
    ·rw [if_pos c4] at H
     have c4b0:decide (x5_1<(l0.length:Int))=true:=decide_eq_true c4
     clear c4
     by_cases c5:0≤x5_1
     ·rw [if_pos c5] at H
      have c5b0:decide (0≤x5_1)=true:=decide_eq_true c5
      clear c5
      by_cases c6:x5_1<(l1.length:Int)
      ·rw [if_pos c6] at H
       have c6b0:decide (x5_1<(l1.length:Int))=true:=decide_eq_true c6
       clear c6
       replace H:=Option.bind_eq_some_iff.mp H
       obtain ⟨t858,A70,H⟩:=H
       replace H:(if t858=true then (laws_eqGapS.l0 k1 l0 l1 (wrap64 (x5_1+1))) else (some false))=some r:=H
       have A7:=Aside0.mk A70
       clear A70
       by_cases c8:t858=true
       ·subst c8
        have H1:(laws_eqGapS.l0 k1 l0 l1 (wrap64 (x5_1+1)))=some r:=by rw [if_pos rfl] at H;exact H
        clear H
        have H:=H1
        clear H1
        have H':=Aside0.mk H
        clear H
        try go_wp2
        have n0_:=Aside0.mk (below_drew1 HB.out)
        clear HB
        have HB:=n0_
        clear n0_
        have p856:0≤(x5_1:Int):=of_decide_eq_true (by first|(with_reducible assumption)|assumption)
        have q856:x5_1<(l0.length:Int):=of_decide_eq_true (by first|(with_reducible assumption)|assumption)
        obtain ⟨ad856,e856,hx856_0,hx856_1⟩:=at_T138 HR0.out x5_1 p856 q856
        have hw856_1:=hx856_1
        have hw856_0:=hx856_0
        cases e856
        replace hx856_0:=(HB.out.cell (World.block_lt_of_cell? w _ hx856_0)).trans hx856_0
        replace hx856_1:=(HB.out.cell (World.block_lt_of_cell? w _ hx856_1)).trans hx856_1
        replace p856:=eq_true p856
        replace q856:=eq_true q856
        have p857:0≤(x5_1:Int):=of_decide_eq_true (by first|(with_reducible assumption)|assumption)
        have q857:x5_1<(l1.length:Int):=of_decide_eq_true (by first|(with_reducible assumption)|assumption)
        obtain ⟨ad857,e857,hx857_0,hx857_1⟩:=at_T138 HR1.out x5_1 p857 q857
        have hw857_1:=hx857_1
        have hw857_0:=hx857_0
        cases e857
        replace hx857_0:=(HB.out.cell (World.block_lt_of_cell? w _ hx857_0)).trans hx857_0
        replace hx857_1:=(HB.out.cell (World.block_lt_of_cell? w _ hx857_1)).trans hx857_1
        replace p857:=eq_true p857
        replace q857:=eq_true q857
        refine start_ (n:=10) (S:=fun w'=>w'.cell? (ad856.add ((x5_1).toNat * 2))=some (.int .i64 ((rd_T138 l0 x5_1).f0))∧w'.cell? ⟨(ad856.add ((x5_1).toNat * 2)).block,(ad856.add ((x5_1).toNat * 2)).off+1,none⟩=some (.int .i64 ((rd_T138 l0 x5_1).f1))∧w'.cell? (ad857.add ((x5_1).toNat * 2))=some (.int .i64 ((rd_T138 l1 x5_1).f0))∧w'.cell? ⟨(ad857.add ((x5_1).toNat * 2)).block,(ad857.add ((x5_1).toNat * 2)).off+1,none⟩=some (.int .i64 ((rd_T138 l1 x5_1).f1))) (ds:=[]) #[false,false,false,false,false,false,false,false,false,false] (by kernel_rfl) rfl rfl ⟨((HB.out.cell (World.block_lt_of_cell? w _ hw856_0)).trans hw856_0),((HB.out.cell (World.block_lt_of_cell? w _ hw856_1)).trans hw856_1),((HB.out.cell (World.block_lt_of_cell? w _ hw857_0)).trans hw857_0),((HB.out.cell (World.block_lt_of_cell? w _ hw857_1)).trans hw857_1)⟩ (fun hHeld=>?_);refine with_tabW laws_eqGapS.tab6 laws_eqGapS.bits6 (fun HT_ HW_=>?_)
        generalize wr.drew=w9 at HB hx856_0 hx856_1 hx857_0 hx857_1 hHeld ⊢
        refine pure_ (i:=0) (N:=some 17) (v:=?_) (a':=?_) #[true,false,false,false,false,false,false,false,false,false] rfl rfl (any_of HT_.out (by kernel_rfl)) (fun _ _ _ h=>h) (Or.inl ⟨by rfl,?_⟩) ?_ ?_
        rotate_left
        ·intro w'
         go_simp
         with_reducible rfl
        rotate_left
        ·simp only [Act.put,List.setIfInBounds_toArray,List.set_cons_zero,List.set_cons_succ,i64_w,i32_w]
         rfl
        refine pure_ (i:=1) (N:=some 18) (v:=?_) (a':=?_) #[true,true,false,false,false,false,false,false,false,false] rfl rfl (any_of HT_.out (by kernel_rfl)) (fun _ _ _ h=>h) (Or.inl ⟨by rfl,?_⟩) ?_ ?_
        rotate_left
        ·intro w'
         go_simp
         with_reducible rfl
        rotate_left
        ·simp only [Act.put,List.setIfInBounds_toArray,List.set_cons_zero,List.set_cons_succ,i64_w,i32_w]
         rfl
        refine pure_ (i:=2) (N:=some 19) (v:=?_) (a':=?_) #[true,true,true,false,false,false,false,false,false,false] rfl rfl (any_of HT_.out (by kernel_rfl)) (fun _ _ _ h=>h) (Or.inl ⟨by rfl,?_⟩) ?_ ?_
        rotate_left
        ·intro w'
         go_simp
         with_reducible rfl
        rotate_left
        ·simp only [Act.put,List.setIfInBounds_toArray,List.set_cons_zero,List.set_cons_succ,i64_w,i32_w]
         rfl
        refine pure_ (i:=4) (N:=some 21) (v:=?_) (a':=?_) #[true,true,true,false,true,false,false,false,false,false] rfl rfl (any_of HT_.out (by kernel_rfl)) (fun _ _ _ h=>h) (Or.inl ⟨by rfl,?_⟩) ?_ ?_
        rotate_left
        ·intro w'
         go_simp
         with_reducible rfl
        rotate_left
        ·simp only [Act.put,List.setIfInBounds_toArray,List.set_cons_zero,List.set_cons_succ,i64_w,i32_w]
         rfl
        refine pure_ (i:=5) (N:=some 22) (v:=?_) (a':=?_) #[true,true,true,false,true,true,false,false,false,false] rfl rfl (any_of HT_.out (by kernel_rfl)) (fun _ _ _ h=>h) (Or.inl ⟨by rfl,?_⟩) ?_ ?_
        rotate_left
        ·intro w'
         go_simp
         with_reducible rfl
        rotate_left
        ·simp only [Act.put,List.setIfInBounds_toArray,List.set_cons_zero,List.set_cons_succ,i64_w,i32_w]
         rfl
        refine pure_ (i:=6) (N:=some 23) (v:=?_) (a':=?_) #[true,true,true,false,true,true,true,false,false,false] rfl rfl (any_of HT_.out (by kernel_rfl)) (fun _ _ _ h=>h) (Or.inl ⟨by rfl,?_⟩) ?_ ?_
        rotate_left
        ·intro w'
         go_simp
         with_reducible rfl
        rotate_left
        ·simp only [Act.put,List.setIfInBounds_toArray,List.set_cons_zero,List.set_cons_succ,i64_w,i32_w]
         rfl
        refine take_ (i:=3) (N:=some 20) (v:=?_) (a':=?_) #[true,true,true,true,true,true,true,false,false,false] rfl rfl (take_ofW HT_.out HW_.out (by kernel_rfl)) (fun _ _ _ h=>h) (Or.inl ⟨by rfl,?_⟩) hHeld ?_ ?_
        rotate_left
        ·rintro w' ⟨s0,s1,s2,s3⟩
         go_simp
         with_reducible rfl
        rotate_left
        ·simp only [Act.put,List.setIfInBounds_toArray,List.set_cons_zero,List.set_cons_succ,i64_w,i32_w]
         rfl
        refine take_ (i:=7) (N:=some 24) (v:=?_) (a':=?_) #[true,true,true,true,true,true,true,true,false,false] rfl rfl (take_ofW HT_.out HW_.out (by kernel_rfl)) (fun _ _ _ h=>h) (Or.inl ⟨by rfl,?_⟩) hHeld ?_ ?_
        rotate_left
        ·rintro w' ⟨s0,s1,s2,s3⟩
         go_simp
         with_reducible rfl
        rotate_left
        ·simp only [Act.put,List.setIfInBounds_toArray,List.set_cons_zero,List.set_cons_succ,i64_w,i32_w]
         rfl
        refine one_ (i:=8) (N:=some 25) #[true,true,true,true,true,true,true,true,true,false] rfl rfl (one_of HT_.out (by kernel_rfl)) (by decide) (fun K hK=>?_)
        refine goes_ Try.func117 (by kernel_rfl) rfl #[.agg #[.int .i64 ((rd_T138 l0 x5_1).f0),.int .i64 ((rd_T138 l0 x5_1).f1)],.agg #[.int .i64 ((rd_T138 l1 x5_1).f0),.int .i64 ((rd_T138 l1 x5_1).f1)]] (by rfl) rfl rfl (by (try simp only [List.map_toArray,List.map_cons,List.map_nil]);first|done|rfl|(simp only [List.length_drop,List.length_take];rfl)) ?_
        with_reducible refine (laws_eqGap.calls ((rd_T138 l0 x5_1).f0) ((rd_T138 l0 x5_1).f1) ((rd_T138 l1 x5_1).f0) ((rd_T138 l1 x5_1).f1) true _ A7.out).mono ?_
        rintro e w10 ⟨rfl,hb⟩
        refine ⟨_,rfl,?_⟩
        have n0_:=Aside0.mk (below_step (by exact HB.out) hb)
        clear HB
        have HB:=n0_
        clear n0_
        (try clear hb)
        (try clear hb2)
        (try clear hk)
        (try clear hi)
        refine hK.out _ _ ⟨((HB.out.cell (World.block_lt_of_cell? w _ hw856_0)).trans hw856_0),((HB.out.cell (World.block_lt_of_cell? w _ hw856_1)).trans hw856_1),((HB.out.cell (World.block_lt_of_cell? w _ hw857_0)).trans hw857_0),((HB.out.cell (World.block_lt_of_cell? w _ hw857_1)).trans hw857_1)⟩ (fun hHeld=>?_)
        clear hK K
        refine norm_ (a':=?_) ?_ ?_
        rotate_left
        ·show Act.put _ (some 25) _=_
         simp only [Act.put,List.setIfInBounds_toArray,List.set_cons_zero,List.set_cons_succ,i64_w,i32_w]
         rfl
        refine pure_ (i:=9) (N:=some 26) (v:=?_) (a':=?_) #[true,true,true,true,true,true,true,true,true,true] rfl rfl (any_of HT_.out (by kernel_rfl)) (fun _ _ _ h=>h) (Or.inl ⟨by rfl,?_⟩) ?_ ?_
        rotate_left
        ·intro w'
         go_simp
         with_reducible rfl
        rotate_left
        ·simp only [Act.put,List.setIfInBounds_toArray,List.set_cons_zero,List.set_cons_succ,i64_w,i32_w]
         rfl
        refine done_ (done_of HT_.out (by kernel_rfl)) ?_
        try go_wp2
        go_roundg k1
        case measure=>have:=HK1.out;omega
        case rel=>exact ⟨(wrap64 (x5_1+1)),(by first|rfl|(simp;done)|(simp [*];done)),H',⟨by have:=HK1.out;omega⟩,⟨by exact HB.out⟩⟩
       replace c8:=Bool.eq_false_iff.mpr c8
       subst c8
       have H1:(some false)=some r:=by rw [if_neg (show ¬ (false=true) by decide)] at H;exact H
       clear H
       have H:=H1
       clear H1
       obtain rfl:=Option.some.inj H
       try go_wp2
       have n0_:=Aside0.mk (below_drew1 HB.out)
       clear HB
       have HB:=n0_
       clear n0_
       have p856:0≤(x5_1:Int):=of_decide_eq_true (by first|(with_reducible assumption)|assumption)
       have q856:x5_1<(l0.length:Int):=of_decide_eq_true (by first|(with_reducible assumption)|assumption)
       obtain ⟨ad856,e856,hx856_0,hx856_1⟩:=at_T138 HR0.out x5_1 p856 q856
       have hw856_1:=hx856_1
       have hw856_0:=hx856_0
       cases e856
       replace hx856_0:=(HB.out.cell (World.block_lt_of_cell? w _ hx856_0)).trans hx856_0
       replace hx856_1:=(HB.out.cell (World.block_lt_of_cell? w _ hx856_1)).trans hx856_1
       replace p856:=eq_true p856
       replace q856:=eq_true q856
       have p857:0≤(x5_1:Int):=of_decide_eq_true (by first|(with_reducible assumption)|assumption)
       have q857:x5_1<(l1.length:Int):=of_decide_eq_true (by first|(with_reducible assumption)|assumption)
       obtain ⟨ad857,e857,hx857_0,hx857_1⟩:=at_T138 HR1.out x5_1 p857 q857
       have hw857_1:=hx857_1
       have hw857_0:=hx857_0
       cases e857
       replace hx857_0:=(HB.out.cell (World.block_lt_of_cell? w _ hx857_0)).trans hx857_0
       replace hx857_1:=(HB.out.cell (World.block_lt_of_cell? w _ hx857_1)).trans hx857_1
       replace p857:=eq_true p857
       replace q857:=eq_true q857
       refine start_ (n:=10) (S:=fun w'=>w'.cell? (ad856.add ((x5_1).toNat * 2))=some (.int .i64 ((rd_T138 l0 x5_1).f0))∧w'.cell? ⟨(ad856.add ((x5_1).toNat * 2)).block,(ad856.add ((x5_1).toNat * 2)).off+1,none⟩=some (.int .i64 ((rd_T138 l0 x5_1).f1))∧w'.cell? (ad857.add ((x5_1).toNat * 2))=some (.int .i64 ((rd_T138 l1 x5_1).f0))∧w'.cell? ⟨(ad857.add ((x5_1).toNat * 2)).block,(ad857.add ((x5_1).toNat * 2)).off+1,none⟩=some (.int .i64 ((rd_T138 l1 x5_1).f1))) (ds:=[]) #[false,false,false,false,false,false,false,false,false,false] (by kernel_rfl) rfl rfl ⟨((HB.out.cell (World.block_lt_of_cell? w _ hw856_0)).trans hw856_0),((HB.out.cell (World.block_lt_of_cell? w _ hw856_1)).trans hw856_1),((HB.out.cell (World.block_lt_of_cell? w _ hw857_0)).trans hw857_0),((HB.out.cell (World.block_lt_of_cell? w _ hw857_1)).trans hw857_1)⟩ (fun hHeld=>?_);refine with_tabW laws_eqGapS.tab6 laws_eqGapS.bits6 (fun HT_ HW_=>?_)
       generalize wr.drew=w11 at HB hx856_0 hx856_1 hx857_0 hx857_1 hHeld ⊢
       refine pure_ (i:=0) (N:=some 17) (v:=?_) (a':=?_) #[true,false,false,false,false,false,false,false,false,false] rfl rfl (any_of HT_.out (by kernel_rfl)) (fun _ _ _ h=>h) (Or.inl ⟨by rfl,?_⟩) ?_ ?_
       rotate_left
       ·intro w'
        go_simp
        with_reducible rfl
       rotate_left
       ·simp only [Act.put,List.setIfInBounds_toArray,List.set_cons_zero,List.set_cons_succ,i64_w,i32_w]
        rfl
       refine pure_ (i:=1) (N:=some 18) (v:=?_) (a':=?_) #[true,true,false,false,false,false,false,false,false,false] rfl rfl (any_of HT_.out (by kernel_rfl)) (fun _ _ _ h=>h) (Or.inl ⟨by rfl,?_⟩) ?_ ?_
       rotate_left
       ·intro w'
        go_simp
        with_reducible rfl
       rotate_left
       ·simp only [Act.put,List.setIfInBounds_toArray,List.set_cons_zero,List.set_cons_succ,i64_w,i32_w]
        rfl
       refine pure_ (i:=2) (N:=some 19) (v:=?_) (a':=?_) #[true,true,true,false,false,false,false,false,false,false] rfl rfl (any_of HT_.out (by kernel_rfl)) (fun _ _ _ h=>h) (Or.inl ⟨by rfl,?_⟩) ?_ ?_
       rotate_left
       ·intro w'
        go_simp
        with_reducible rfl
       rotate_left
       ·simp only [Act.put,List.setIfInBounds_toArray,List.set_cons_zero,List.set_cons_succ,i64_w,i32_w]
        rfl
       refine pure_ (i:=4) (N:=some 21) (v:=?_) (a':=?_) #[true,true,true,false,true,false,false,false,false,false] rfl rfl (any_of HT_.out (by kernel_rfl)) (fun _ _ _ h=>h) (Or.inl ⟨by rfl,?_⟩) ?_ ?_
       rotate_left
       ·intro w'
        go_simp
        with_reducible rfl
       rotate_left
       ·simp only [Act.put,List.setIfInBounds_toArray,List.set_cons_zero,List.set_cons_succ,i64_w,i32_w]
        rfl
       refine pure_ (i:=5) (N:=some 22) (v:=?_) (a':=?_) #[true,true,true,false,true,true,false,false,false,false] rfl rfl (any_of HT_.out (by kernel_rfl)) (fun _ _ _ h=>h) (Or.inl ⟨by rfl,?_⟩) ?_ ?_
       rotate_left
       ·intro w'
        go_simp
        with_reducible rfl
       rotate_left
       ·simp only [Act.put,List.setIfInBounds_toArray,List.set_cons_zero,List.set_cons_succ,i64_w,i32_w]
        rfl
       refine pure_ (i:=6) (N:=some 23) (v:=?_) (a':=?_) #[true,true,true,false,true,true,true,false,false,false] rfl rfl (any_of HT_.out (by kernel_rfl)) (fun _ _ _ h=>h) (Or.inl ⟨by rfl,?_⟩) ?_ ?_
       rotate_left
       ·intro w'
        go_simp
        with_reducible rfl
       rotate_left
       ·simp only [Act.put,List.setIfInBounds_toArray,List.set_cons_zero,List.set_cons_succ,i64_w,i32_w]
        rfl
       refine take_ (i:=3) (N:=some 20) (v:=?_) (a':=?_) #[true,true,true,true,true,true,true,false,false,false] rfl rfl (take_ofW HT_.out HW_.out (by kernel_rfl)) (fun _ _ _ h=>h) (Or.inl ⟨by rfl,?_⟩) hHeld ?_ ?_
       rotate_left
       ·rintro w' ⟨s0,s1,s2,s3⟩
        go_simp
        with_reducible rfl
       rotate_left
       ·simp only [Act.put,List.setIfInBounds_toArray,List.set_cons_zero,List.set_cons_succ,i64_w,i32_w]
        rfl
       refine take_ (i:=7) (N:=some 24) (v:=?_) (a':=?_) #[true,true,true,true,true,true,true,true,false,false] rfl rfl (take_ofW HT_.out HW_.out (by kernel_rfl)) (fun _ _ _ h=>h) (Or.inl ⟨by rfl,?_⟩) hHeld ?_ ?_
       rotate_left
       ·rintro w' ⟨s0,s1,s2,s3⟩
        go_simp
        with_reducible rfl
       rotate_left
       ·simp only [Act.put,List.setIfInBounds_toArray,List.set_cons_zero,List.set_cons_succ,i64_w,i32_w]
        rfl
       refine one_ (i:=8) (N:=some 25) #[true,true,true,true,true,true,true,true,true,false] rfl rfl (one_of HT_.out (by kernel_rfl)) (by decide) (fun K hK=>?_)
       refine goes_ Try.func117 (by kernel_rfl) rfl #[.agg #[.int .i64 ((rd_T138 l0 x5_1).f0),.int .i64 ((rd_T138 l0 x5_1).f1)],.agg #[.int .i64 ((rd_T138 l1 x5_1).f0),.int .i64 ((rd_T138 l1 x5_1).f1)]] (by rfl) rfl rfl (by (try simp only [List.map_toArray,List.map_cons,List.map_nil]);first|done|rfl|(simp only [List.length_drop,List.length_take];rfl)) ?_
       with_reducible refine (laws_eqGap.calls ((rd_T138 l0 x5_1).f0) ((rd_T138 l0 x5_1).f1) ((rd_T138 l1 x5_1).f0) ((rd_T138 l1 x5_1).f1) false _ A7.out).mono ?_
       rintro e w12 ⟨rfl,hb⟩
       refine ⟨_,rfl,?_⟩
       have n0_:=Aside0.mk (below_step (by exact HB.out) hb)
       clear HB
       have HB:=n0_
       clear n0_
       (try clear hb)
       (try clear hb2)
       (try clear hk)
       (try clear hi)
       refine hK.out _ _ ⟨((HB.out.cell (World.block_lt_of_cell? w _ hw856_0)).trans hw856_0),((HB.out.cell (World.block_lt_of_cell? w _ hw856_1)).trans hw856_1),((HB.out.cell (World.block_lt_of_cell? w _ hw857_0)).trans hw857_0),((HB.out.cell (World.block_lt_of_cell? w _ hw857_1)).trans hw857_1)⟩ (fun hHeld=>?_)
       clear hK K
       refine norm_ (a':=?_) ?_ ?_
       rotate_left
       ·show Act.put _ (some 25) _=_
        simp only [Act.put,List.setIfInBounds_toArray,List.set_cons_zero,List.set_cons_succ,i64_w,i32_w]
        rfl
       refine pure_ (i:=9) (N:=some 26) (v:=?_) (a':=?_) #[true,true,true,true,true,true,true,true,true,true] rfl rfl (any_of HT_.out (by kernel_rfl)) (fun _ _ _ h=>h) (Or.inl ⟨by rfl,?_⟩) ?_ ?_
       rotate_left
       ·intro w'
        go_simp
        with_reducible rfl
       rotate_left
       ·simp only [Act.put,List.setIfInBounds_toArray,List.set_cons_zero,List.set_cons_succ,i64_w,i32_w]
        rfl
       refine done_ (done_of HT_.out (by kernel_rfl)) ?_
       try go_wp2
       go_ret
       exact ⟨by first|rfl|(simp [errW_none,errW_some] <;> rfl)|(simp [*,errW_none,errW_some] <;> rfl),by exact HB.out⟩
      rw [if_neg c6] at H
      exact absurd H (by simp)
     rw [if_neg c5] at H
     exact absurd H (by simp)
    rw [if_neg c4] at H
    have c4b0:decide (x5_1<(l0.length:Int))=false:=decide_eq_false c4
    clear c4
    obtain rfl:=Option.some.inj H
    go_wp2
    go_ret
    exact ⟨by first|rfl|(simp [errW_none,errW_some] <;> rfl)|(simp [*,errW_none,errW_some] <;> rfl),by exact HB.out⟩
 rw [if_neg c3] at H
 have c3b0:((l0.length:Int)==(l1.length:Int))=false:=beq_eq_false_iff_ne.mpr c3
 have c3b1:((l0.length:Int) != (l1.length:Int))=true:=bne_iff_ne.mpr c3
 have c3b2:(l0.length==l1.length)=false:=by first|simpa using c3|(simp at c3 ⊢;omega)
 obtain rfl:=Option.some.inj H
 go_enter Try.func66,Try.ntmps66
 go_wp2
 go_ret
 exact ⟨by first|rfl|(simp [errW_none,errW_some] <;> rfl)|(simp [*,errW_none,errW_some] <;> rfl),by exact HB.out⟩
end Go.Proofs.Ytpdnabhpkdchjaa.P
namespace Go.Proofs.Ytpdnabhpkdchjaa.P
open Go.RowKit Go.Proofs.YtpdnabhpkdchjaaW.PrintWords Go.Proofs.YtpdnabhpkdchjaaW.PrintLast Go.Proofs.YtpdnabhpkdchjaaW.PrintMore
attribute [local go_sem] max2_int min2_int max_two min_two max_three min_three max_four min_four
set_option linter.unusedVariables false
set_option linter.unusedSimpArgs false
def laws_markGapS.l0:Nat→List (S138)→Int→Int→Option (Int × (List (S138)))
 | 0,_,_,_=>none
 | k+1,x0,x1,x5=>if x5<(x0.length:Int) then (if 0≤x5 then ((some (x0.set (x5:Int).toNat (⟨x1,(rd_T138 x0 x5).f1⟩:S138):List (S138))).bind fun y859=>(laws_markGapS.l0 k (y859.set (x5:Int).toNat (⟨(rd_T138 y859 x5).f0,wrap64 (x1+1)⟩:S138)) (wrap64 ((wrap64 (x1+1))+1)) (wrap64 (x5+1)))) else (none)) else (some (x1,x0))
def laws_markGapS.f (k:Nat) (l0:List (S138)) (a1:Int):Option (Int × (List (S138))):=laws_markGapS.l0 k l0 a1 0
set_option maxHeartbeats 8000000 in
set_option maxRecDepth 100000 in
theorem laws_markGapS.calls (k:Nat) (P0_:Nat→Prop) (u9000_:Value) (l0:List (S138)) (a1:Int) (r1:Int) (r2:List (S138)) (w0 w:World) (hB:Below w0.heap.size w0 w) (ho0:Kd.R k138 138 w w0.heap.size P0_ u9000_ l0) (h:laws_markGapS.f k l0 a1=some (r1,r2)) :
  Calls Try.prog 67 #[u9000_,.int .i64 a1] w fun e w'=>e=.returned (.int .i64 r1)∧Kd.R k138 138 w' w0.heap.size (fun k_=>(P0_ k_ ∨ w.heap.size≤k_)) u9000_ r2∧Below w0.heap.size w0 w'∧Kept w w' (fun k_=>P0_ k_):=by
 have HO0:=Aside0.mk (show Kd.R k138 138 w w0.heap.size (fun k_=>(P0_ k_ ∨ w.heap.size≤k_)) u9000_ l0 from Kd.R_mono ho0 (fun k_ hk=>(.inl hk)))
 have HK:=Aside0.mk (Kept.refl w (fun k_=>P0_ k_))
 have HW0:=Aside0.mk hB.size
 have HB:=Aside0.mk hB
 clear hB
 have H:(laws_markGapS.l0 k l0 a1 0)=some (r1,r2):=h
 clear h
 have H':=Aside0.mk H
 clear H
 go_enter Try.func67,Try.ntmps67
 go_wp2
 go_loopg [1,5] k (fun kq v1 v5 w'=>∃ (x0_1:List (S138)) (x1_1:Int) (x5_1:Int),v1=.int .i64 x1_1∧v5=.int .i64 x5_1∧Aside0 (laws_markGapS.l0 kq x0_1 x1_1 x5_1=some (r1,r2))∧Aside0 (kq≤k)∧Aside0 (Kd.R k138 138 w' w0.heap.size (fun k_=>(P0_ k_ ∨ w.heap.size≤k_)) u9000_ x0_1)∧Aside0 (Kept w w' (fun k_=>P0_ k_))∧Aside0 (Below w0.heap.size w0 w'))
 case atStart=>exact ⟨(l0),(a1),(0),(by first|rfl|(simp;done)|(simp [*];done)),(by first|rfl|(simp;done)|(simp [*];done)),H',⟨Nat.le_refl _⟩,⟨by (with_reducible repeat (first|apply Kd.R_alloc|apply Kd.R_drewN|apply Kd.R_drew));exact HO0.out⟩,⟨by repeat (first|(with_reducible first|exact HK.out|apply Kept.alloc|apply Kept.drewN|apply Kept.drew)|exact HK.out)⟩,⟨by repeat (first|(with_reducible first|exact HB.out|apply below_alloc|apply pw_below_drewN|apply below_drew1)|exact HB.out)⟩⟩
 case round =>
  clear H'
  try clear p2
  obtain ⟨x0_1,x1_1,x5_1,rfl,rfl,HA,HK1,HO_0,HK,HB⟩:=hrel
  cases gk with
  | zero=>exact absurd HA.out (by simp [laws_markGapS.l0])
  | succ k1 =>
   have H:=HA.out
   clear HA
   simp only [laws_markGapS.l0] at H
   by_cases c3:x5_1<(x0_1.length:Int)
   ·rw [if_pos c3] at H
    have c3b0:decide (x5_1<(x0_1.length:Int))=true:=decide_eq_true c3
    clear c3
    by_cases c4:0≤x5_1
    ·rw [if_pos c4] at H
     have c4b0:decide (0≤x5_1)=true:=decide_eq_true c4
     clear c4
     obtain ⟨y859,hy859⟩:∃ y_:List (S138),y_=(x0_1.set (x5_1:Int).toNat (⟨x1_1,(rd_T138 x0_1 x5_1).f1⟩:S138)):=⟨_,rfl⟩
     replace H:(laws_markGapS.l0 k1 (y859.set (x5_1:Int).toNat (⟨(rd_T138 y859 x5_1).f0,wrap64 (x1_1+1)⟩:S138)) (wrap64 ((wrap64 (x1_1+1))+1)) (wrap64 (x5_1+1)))=some (r1,r2):=by first|(rw [hy859];with_reducible exact H)|(have H2_:=(Option.bind_some _ _).symm.trans H;rw [hy859];with_reducible exact H2_)|(have H2_:=(Option.bind_some _ _).symm.trans H;with_reducible exact H2_)|with_reducible exact H|(rw [hy859];exact H)|exact H
     have Ny859:=Aside0.mk hy859
     clear hy859
     obtain ⟨y860,hy860⟩:∃ y_:List (S138),y_=(y859.set (x5_1:Int).toNat (⟨(rd_T138 y859 x5_1).f0,wrap64 (x1_1+1)⟩:S138)):=⟨_,rfl⟩
     replace H:(laws_markGapS.l0 k1 y860 (wrap64 ((wrap64 (x1_1+1))+1)) (wrap64 (x5_1+1)))=some (r1,r2):=by first|(rw [hy860];with_reducible exact H)|(have H2_:=(Option.bind_some _ _).symm.trans H;rw [hy860];with_reducible exact H2_)|(have H2_:=(Option.bind_some _ _).symm.trans H;with_reducible exact H2_)|with_reducible exact H|(rw [hy860];exact H)|exact H
     have Ny860:=Aside0.mk hy860
     clear hy860
     have H':=Aside0.mk H
     clear H
     obtain ⟨Ao7,co7,eo7⟩:=Kd.R_slice HO_0.out
     subst eo7
     have p5:0≤(x5_1:Int):=of_decide_eq_true (by first|(with_reducible assumption)|assumption)
     have q5:(x5_1:Int)<((x0_1.length:Int):Int):=of_decide_eq_true (by first|(with_reducible assumption)|assumption)
     obtain ⟨go5,co5,eo5,gb5,gl5,cl5,HG5⟩:=Kd.R_form HO_0.out (by omega)
     (first|cases eo5|(injection eo5 with ea_ en_ ec_;(first|subst ea_|(injection ea_ with ea_;subst ea_));subst ec_;clear en_))
     have GB5:=Aside0.mk gb5
     have GG5:=Aside0.mk HG5
     clear gb5 gl5 HG5
     have HMgo5:=Aside0.mk (show (P0_ go5 ∨ w.heap.size≤go5) from (HO_0.out.1 _ rfl))
     obtain ⟨ce5,hcl5,hM5,hcc5,hfr5⟩:=Kd.R_elem HO_0.out z138 (x5_1:Int) p5 q5
     obtain rfl:=k138_openM hM5
     have hx5_0:wr.cell? ⟨go5,(x5_1:Int).toNat * 2,none⟩=some (.int .i64 ((rd_T138 x0_1 x5_1).f0)):=hcc5 0 _ rfl
     have hx5_1:wr.cell? ⟨go5,(x5_1:Int).toNat * 2+1,none⟩=some (.int .i64 ((rd_T138 x0_1 x5_1).f1)):=hcc5 1 _ rfl
     have hf5_0:wr.frozen? ⟨go5,(x5_1:Int).toNat * 2,none⟩=false:=hfr5 0
     have hf5_1:wr.frozen? ⟨go5,(x5_1:Int).toNat * 2+1,none⟩=false:=hfr5 1
     clear hcl5 hcc5 hfr5 hM5
     replace p5:=eq_true p5
     replace q5:=eq_true q5
     have HX8:=Aside0.mk (show Kd.R k138 138 wr w0.heap.size (fun k_=>(P0_ k_ ∨ w.heap.size≤k_)) (.slice (some ⟨go5,0,none⟩) x0_1.length co7) x0_1 from (by (with_reducible repeat (first|apply Kd.R_alloc|apply Kd.R_drewN|apply Kd.R_drew));exact HO_0.out))
     obtain ⟨ce8,hcl8,hM8,hcc8,hfr8⟩:=Kd.R_elem HX8.out z138 (x5_1:Int) (of_decide_eq_true (by first|(with_reducible assumption)|assumption)) (by have h_:(x5_1:Int)<((x0_1.length:Int):Int):=of_decide_eq_true (by first|(with_reducible assumption)|assumption);first|exact h_|(have e_:=(Kd.R_reads' HO_0.out).1;omega)|simpa using h_)
     obtain rfl:=k138_openM hM8
     have HP8:=Kd.R_seg HX8.out (x5_1:Int) (of_decide_eq_true (by first|(with_reducible assumption)|assumption)) (by have h_:(x5_1:Int)<((x0_1.length:Int):Int):=of_decide_eq_true (by first|(with_reducible assumption)|assumption);first|exact h_|(have e_:=(Kd.R_reads' HO_0.out).1;omega)|simpa using h_) (seg:=[.int .i64 x1_1]) (j:=0) hcl8 hcc8 (show 1≤2 from by decide) (x':=(⟨x1_1,(rd_T138 x0_1 x5_1).f1⟩:S138)) (k138_mkM _ _ _ (⟨x1_1,(rd_T138 x0_1 x5_1).f1⟩:S138) ) (fun _ hk=>hk)
     have hx8_0:=hcc8 0 _ rfl
     (try simp only [show (k138).sz=2 from rfl,Nat.mul_one,Nat.add_zero] at hx8_0)
     have hf8_0:=hfr8 0
     (try simp only [show (k138).sz=2 from rfl,Nat.mul_one,Nat.add_zero] at hf8_0)
     clear hcl8 hcc8 hfr8 hM8
     go_wp2_with (first|((with_reducible refine gate_store (t:=3) (p:=16) rfl ?_);refine store_event (t:=3) (p:=16) (v:=?vo_w9) (w1:=(wr.setCell ⟨go5,(x5_1:Int).toNat * 2,none⟩ (.int .i64 x1_1))) ?hg ?ho ?hn ?hr ?_;(case ho=>rfl);(case hg=>rfl);(case hn=>rfl);(case hr=>first|(go_simp;done)|(go_simp;rfl));intro w9 hw;have hg:wr.grownBy w9 (some go5):=(by rw [hw];exact HP8.2);have hp_:Kd.R k138 138 w9 w0.heap.size (fun k_=>(P0_ k_ ∨ w.heap.size≤k_)) (.slice (some ⟨go5,0,none⟩) x0_1.length co7) y859:=(by rw [hw,Ny859.out];exact HP8.1);clear HP8;have n0_:=Aside0.mk (hp_);have n1_:=Aside0.mk ((by rw [hw];exact below_set (HB.out) GB5.out:Below w0.heap.size w0 w9));have n2_:=Aside0.mk (Kept.of_grown (S:=(fun k_=>P0_ k_)) hg (by repeat (first|(with_reducible first|exact HK.out|apply Kept.alloc|apply Kept.drewN|apply Kept.drew)|exact HK.out)) (fun k_ e_=>(HO_0.out.1 k_ e_)));clear HO_0;clear HB;clear HK;have HO_0:=n0_;have HB:=n1_;have HK:=n2_;clear n0_ n1_ n2_;clear hg hw hp_;have p6:0≤(x5_1:Int):=of_decide_eq_true (by first|(with_reducible assumption)|assumption);have q6:(x5_1:Int)<((x0_1.length:Int):Int):=of_decide_eq_true (by first|(with_reducible assumption)|assumption);obtain ⟨ce6,hcl6,hM6,hcc6,hfr6⟩:=Kd.R_elem HO_0.out z138 (x5_1:Int) p6 q6;obtain rfl:=k138_openM hM6;have hx6_0:w9.cell? ⟨go5,(x5_1:Int).toNat * 2,none⟩=some (.int .i64 ((rd_T138 y859 x5_1).f0)):=hcc6 0 _ rfl;have hx6_1:w9.cell? ⟨go5,(x5_1:Int).toNat * 2+1,none⟩=some (.int .i64 ((rd_T138 y859 x5_1).f1)):=hcc6 1 _ rfl;have hf6_0:w9.frozen? ⟨go5,(x5_1:Int).toNat * 2,none⟩=false:=hfr6 0;have hf6_1:w9.frozen? ⟨go5,(x5_1:Int).toNat * 2+1,none⟩=false:=hfr6 1;clear hcl6 hcc6 hfr6 hM6;replace p6:=eq_true p6;replace q6:=eq_true q6;have HX10:=Aside0.mk (show Kd.R k138 138 w9 w0.heap.size (fun k_=>(P0_ k_ ∨ w.heap.size≤k_)) (.slice (some ⟨go5,0,none⟩) x0_1.length co7) y859 from (by (with_reducible repeat (first|apply Kd.R_alloc|apply Kd.R_drewN|apply Kd.R_drew));exact HO_0.out));obtain ⟨ce10,hcl10,hM10,hcc10,hfr10⟩:=Kd.R_elem HX10.out z138 (x5_1:Int) (of_decide_eq_true (by first|(with_reducible assumption)|assumption)) (by have h_:(x5_1:Int)<((x0_1.length:Int):Int):=of_decide_eq_true (by first|(with_reducible assumption)|assumption);first|exact h_|(have e_:=(Kd.R_reads' HO_0.out).1;omega)|simpa using h_);obtain rfl:=k138_openM hM10;have HP10:=Kd.R_seg HX10.out (x5_1:Int) (of_decide_eq_true (by first|(with_reducible assumption)|assumption)) (by have h_:(x5_1:Int)<((x0_1.length:Int):Int):=of_decide_eq_true (by first|(with_reducible assumption)|assumption);first|exact h_|(have e_:=(Kd.R_reads' HO_0.out).1;omega)|simpa using h_) (seg:=[.int .i64 (wrap64 (x1_1+1))]) (j:=1) hcl10 hcc10 (show 2≤2 from by decide) (x':=(⟨(rd_T138 y859 x5_1).f0,wrap64 (x1_1+1)⟩:S138)) (k138_mkM _ _ _ (⟨(rd_T138 y859 x5_1).f0,wrap64 (x1_1+1)⟩:S138) ) (fun _ hk=>hk);have hx10_1:=hcc10 1 _ rfl;(try simp only [show (k138).sz=2 from rfl,Nat.mul_one,Nat.add_zero] at hx10_1);have hf10_1:=hfr10 1;(try simp only [show (k138).sz=2 from rfl,Nat.mul_one,Nat.add_zero] at hf10_1);clear hcl10 hcc10 hfr10 hM10)|((with_reducible refine gate_store (t:=3) (p:=23) rfl ?_);refine store_event (t:=3) (p:=23) (v:=?vo_w11) (w1:=(w9.setCell ⟨go5,(x5_1:Int).toNat * 2+1,none⟩ (.int .i64 (wrap64 (x1_1+1))))) ?hg ?ho ?hn ?hr ?_;(case ho=>rfl);(case hg=>rfl);(case hn=>rfl);(case hr=>first|(go_simp;done)|(go_simp;rfl));intro w11 hw;have hg:w9.grownBy w11 (some go5):=(by rw [hw];exact HP10.2);have hp_:Kd.R k138 138 w11 w0.heap.size (fun k_=>(P0_ k_ ∨ w.heap.size≤k_)) (.slice (some ⟨go5,0,none⟩) x0_1.length co7) y860:=(by rw [hw,Ny860.out];exact HP10.1);clear HP10;have n0_:=Aside0.mk (hp_);have n1_:=Aside0.mk ((by rw [hw];exact below_set (HB.out) GB5.out:Below w0.heap.size w0 w11));have n2_:=Aside0.mk (Kept.of_grown (S:=(fun k_=>P0_ k_)) hg (by repeat (first|(with_reducible first|exact HK.out|apply Kept.alloc|apply Kept.drewN|apply Kept.drew)|exact HK.out)) (fun k_ e_=>(HO_0.out.1 k_ e_)));clear HO_0;clear HB;clear HK;have HO_0:=n0_;have HB:=n1_;have HK:=n2_;clear n0_ n1_ n2_;clear hg hw hp_))
     go_roundg k1
     case measure=>have:=HK1.out;omega
     case rel=>exact ⟨(y860),(wrap64 ((wrap64 (x1_1+1))+1)),(wrap64 (x5_1+1)),(by first|rfl|(simp;done)|(simp [*];done)),(by first|rfl|(simp;done)|(simp [*];done)),H',⟨by have:=HK1.out;omega⟩,⟨by (with_reducible repeat (first|apply Kd.R_alloc|apply Kd.R_drewN|apply Kd.R_drew));exact HO_0.out⟩,⟨by repeat (first|(with_reducible first|exact HK.out|apply Kept.alloc|apply Kept.drewN|apply Kept.drew)|exact HK.out)⟩,⟨by repeat (first|(with_reducible first|exact HB.out|apply below_alloc|apply pw_below_drewN|apply below_drew1)|exact HB.out)⟩⟩
    rw [if_neg c4] at H
    exact absurd H (by simp)
   rw [if_neg c3] at H
   have c3b0:decide (x5_1<(x0_1.length:Int))=false:=decide_eq_false c3
   clear c3
   simp only [Option.some.injEq,Prod.mk.injEq] at H
   obtain ⟨rfl,rfl⟩:=H
   obtain ⟨Ao12,co12,eo12⟩:=Kd.R_slice HO_0.out
   subst eo12
   go_wp2
   go_ret
   exact ⟨by first|rfl|(simp [errW_none,errW_some] <;> rfl)|(simp [*,errW_none,errW_some] <;> rfl),by (with_reducible repeat (first|apply Kd.R_alloc|apply Kd.R_drewN|apply Kd.R_drew));exact HO_0.out,by repeat (first|(with_reducible first|exact HB.out|apply below_alloc|apply pw_below_drewN|apply below_drew1)|exact HB.out),by repeat (first|(with_reducible first|exact HK.out|apply Kept.alloc|apply Kept.drewN|apply Kept.drew)|exact HK.out)⟩
end Go.Proofs.Ytpdnabhpkdchjaa.P
namespace Go.Proofs.Ytpdnabhpkdchjaa.P
open Go.RowKit Go.Proofs.YtpdnabhpkdchjaaW.PrintWords Go.Proofs.YtpdnabhpkdchjaaW.PrintLast Go.Proofs.YtpdnabhpkdchjaaW.PrintMore
attribute [local go_sem] max2_int min2_int max_two min_two max_three min_three max_four min_four
set_option linter.unusedVariables false
set_option linter.unusedSimpArgs false
def laws_heldGapS.l0:Nat→List (S138)→Int→Int→Option (Int)
 | 0,_,_,_=>none
 | k+1,x0,x1,x5=>if x5<(x0.length:Int) then (if 0≤x5 then (if ((rd_T138 x0 x5).f0)=x1 then (if ((rd_T138 x0 x5).f1)=(wrap64 (x1+1)) then (laws_heldGapS.l0 k x0 (wrap64 ((wrap64 (x1+1))+1)) (wrap64 (x5+1))) else (some (-1))) else (some (-1))) else (none)) else (some x1)
def laws_heldGapS.f (k:Nat) (l0:List (S138)) (a1:Int):Option (Int):=laws_heldGapS.l0 k l0 a1 0
set_option maxHeartbeats 8000000 in
set_option maxRecDepth 100000 in
theorem laws_heldGapS.calls (k:Nat) (A0:Option Addr) (c0:Nat) (l0:List (S138)) (a1:Int) (r:Int) (w:World) (hr0:Kd.C k138 w A0 l0.length l0) (hc0:l0.length≤c0) (h:laws_heldGapS.f k l0 a1=some r) :
  Calls Try.prog 68 #[.slice A0 l0.length c0,.int .i64 a1] w fun e w'=>e=.returned (.int .i64 r)∧Drawn0 w w':=by
 have HR0:=Aside0.mk hr0
 have HC0:=Aside0.mk hc0
 clear hr0 hc0
 have H:(laws_heldGapS.l0 k l0 a1 0)=some r:=h
 clear h
 have H':=Aside0.mk H
 clear H
 go_enter Try.func68,Try.ntmps68
 go_wp2
 go_loopg [1,5] k (fun kq v1 v5 w'=>∃ (x1_1:Int) (x5_1:Int),v1=.int .i64 x1_1∧v5=.int .i64 x5_1∧Aside0 (laws_heldGapS.l0 kq l0 x1_1 x5_1=some r)∧Aside0 (kq≤k)∧Drawn0 w w')
 case atStart=>exact ⟨(a1),(0),(by first|rfl|(simp;done)|(simp [*];done)),(by first|rfl|(simp;done)|(simp [*];done)),H',⟨Nat.le_refl _⟩,by repeat (first|exact Drawn0.refl _|apply Drawn0.step)⟩
 case round =>
  clear H'
  try clear p2
  obtain ⟨x1_1,x5_1,rfl,rfl,HA,HK1,⟨m1,rfl⟩⟩:=hrel
  cases gk with
  | zero=>exact absurd HA.out (by simp [laws_heldGapS.l0])
  | succ k1 =>
   have H:=HA.out
   clear HA
   simp only [laws_heldGapS.l0] at H
   by_cases c3:x5_1<(l0.length:Int)
   ·rw [if_pos c3] at H
    have c3b0:decide (x5_1<(l0.length:Int))=true:=decide_eq_true c3
    clear c3
    by_cases c4:0≤x5_1
    ·rw [if_pos c4] at H
     have c4b0:decide (0≤x5_1)=true:=decide_eq_true c4
     clear c4
     by_cases c5:((rd_T138 l0 x5_1).f0)=x1_1
     ·rw [if_pos c5] at H
      have c5b0:(((rd_T138 l0 x5_1).f0)==x1_1)=true:=beq_iff_eq.mpr c5
      have c5b1:(((rd_T138 l0 x5_1).f0) != x1_1)=false:=bne_eq_false_iff_eq.mpr c5
      clear c5
      by_cases c6:((rd_T138 l0 x5_1).f1)=(wrap64 (x1_1+1))
      ·rw [if_pos c6] at H
       have c6b0:(((rd_T138 l0 x5_1).f1)==(wrap64 (x1_1+1)))=true:=beq_iff_eq.mpr c6
       have c6b1:(((rd_T138 l0 x5_1).f1) != (wrap64 (x1_1+1)))=false:=bne_eq_false_iff_eq.mpr c6
       clear c6
       have H':=Aside0.mk H
       clear H
       have p861:0≤(x5_1:Int):=of_decide_eq_true (by first|(with_reducible assumption)|assumption)
       have q861:x5_1<(l0.length:Int):=of_decide_eq_true (by first|(with_reducible assumption)|assumption)
       obtain ⟨ad861,e861,hx861_0,hx861_1⟩:=at_T138 HR0.out x5_1 p861 q861
       cases e861
       replace p861:=eq_true p861
       replace q861:=eq_true q861
       have p862:0≤(x5_1:Int):=of_decide_eq_true (by first|(with_reducible assumption)|assumption)
       have q862:x5_1<(l0.length:Int):=of_decide_eq_true (by first|(with_reducible assumption)|assumption)
       obtain ⟨ad862,e862,hx862_0,hx862_1⟩:=at_T138 HR0.out x5_1 p862 q862
       obtain rfl:ad861=ad862:=(by injection e862)
       replace p862:=eq_true p862
       replace q862:=eq_true q862
       go_wp2
       go_roundg k1
       case measure=>have:=HK1.out;omega
       case rel=>exact ⟨(wrap64 ((wrap64 (x1_1+1))+1)),(wrap64 (x5_1+1)),(by first|rfl|(simp;done)|(simp [*];done)),(by first|rfl|(simp;done)|(simp [*];done)),H',⟨by have:=HK1.out;omega⟩,by repeat (first|exact Drawn0.refl _|apply Drawn0.step)⟩
      rw [if_neg c6] at H
      have c6b0:(((rd_T138 l0 x5_1).f1)==(wrap64 (x1_1+1)))=false:=beq_eq_false_iff_ne.mpr c6
      have c6b1:(((rd_T138 l0 x5_1).f1) != (wrap64 (x1_1+1)))=true:=bne_iff_ne.mpr c6
      obtain rfl:=Option.some.inj H
      have p861:0≤(x5_1:Int):=of_decide_eq_true (by first|(with_reducible assumption)|assumption)
      have q861:x5_1<(l0.length:Int):=of_decide_eq_true (by first|(with_reducible assumption)|assumption)
      obtain ⟨ad861,e861,hx861_0,hx861_1⟩:=at_T138 HR0.out x5_1 p861 q861
      cases e861
      replace p861:=eq_true p861
      replace q861:=eq_true q861
      have p862:0≤(x5_1:Int):=of_decide_eq_true (by first|(with_reducible assumption)|assumption)
      have q862:x5_1<(l0.length:Int):=of_decide_eq_true (by first|(with_reducible assumption)|assumption)
      obtain ⟨ad862,e862,hx862_0,hx862_1⟩:=at_T138 HR0.out x5_1 p862 q862
      obtain rfl:ad861=ad862:=(by injection e862)
      replace p862:=eq_true p862
      replace q862:=eq_true q862
      go_wp2
      go_ret
      exact ⟨by first|rfl|(simp;done)|(simp [*];done),by repeat (first|exact Drawn0.refl _|apply Drawn0.step)⟩
     rw [if_neg c5] at H
     have c5b0:(((rd_T138 l0 x5_1).f0)==x1_1)=false:=beq_eq_false_iff_ne.mpr c5
     have c5b1:(((rd_T138 l0 x5_1).f0) != x1_1)=true:=bne_iff_ne.mpr c5
     obtain rfl:=Option.some.inj H
     have p861:0≤(x5_1:Int):=of_decide_eq_true (by first|(with_reducible assumption)|assumption)
     have q861:x5_1<(l0.length:Int):=of_decide_eq_true (by first|(with_reducible assumption)|assumption)
     obtain ⟨ad861,e861,hx861_0,hx861_1⟩:=at_T138 HR0.out x5_1 p861 q861
     cases e861
     replace p861:=eq_true p861
     replace q861:=eq_true q861
     go_wp2
     go_ret
     exact ⟨by first|rfl|(simp;done)|(simp [*];done),by repeat (first|exact Drawn0.refl _|apply Drawn0.step)⟩
    rw [if_neg c4] at H
    exact absurd H (by simp)
   rw [if_neg c3] at H
   have c3b0:decide (x5_1<(l0.length:Int))=false:=decide_eq_false c3
   clear c3
   obtain rfl:=Option.some.inj H
   go_wp2
   go_ret
   exact ⟨by first|rfl|(simp;done)|(simp [*];done),by repeat (first|exact Drawn0.refl _|apply Drawn0.step)⟩
end Go.Proofs.Ytpdnabhpkdchjaa.P
namespace Go.Proofs.Ytpdnabhpkdchjaa.P
open Go.RowKit Go.Proofs.YtpdnabhpkdchjaaW.PrintWords Go.Proofs.YtpdnabhpkdchjaaW.PrintLast Go.Proofs.YtpdnabhpkdchjaaW.PrintMore
set_option linter.unusedVariables false
set_option linter.unusedSimpArgs false
def gapRow (ss:List S50) (t:List Int) (i:Int):Nat→List S138
 | 0=>[]
 | j+1=>gapRow ss t i j ++ (if ((rd_T50 ss (j:Int)).f0==0)=true∧(rd t (j:Int) != 0)=true then [⟨i,(j:Int)⟩] else [])
def gapTo (rs:List S48) (tr:List (List Int)):Nat→List S138
 | 0=>[]
 | i+1=>gapTo rs tr i ++ gapRow (rd_T48 rs (i:Int)).f1.f1 (rd_L12 tr (i:Int)) (i:Int) (rd_T48 rs (i:Int)).f1.f1.length
def gaps (n:Int) (l:List S88) (es:List S56):List S138:=gapTo (run n l es) (truth n l es) (run n l es).length
theorem gapRow_len (ss:List S50) (t:List Int) (i:Int) (j:Nat):(gapRow ss t i j).length≤j:=by
 induction j with
 | zero=>simp [gapRow]
 | succ j ih =>
  rw [gapRow,List.length_append]
  split
  ·simp;omega
  simp;omega
theorem gapTo_len {rs:List S48} {tr:List (List Int)} (h:∀ i:Nat,i<rs.length→(rd_T48 rs (i:Int)).f1.f1.length≤60) (i:Nat) (hi:i≤rs.length):(gapTo rs tr i).length≤i * 60:=by
 induction i with
 | zero=>simp [gapTo]
 | succ i ih =>
  rw [gapTo,List.length_append]
  have h1:=gapRow_len (rd_T48 rs (i:Int)).f1.f1 (rd_L12 tr (i:Int)) (i:Int) (rd_T48 rs (i:Int)).f1.f1.length
  have h2:=h i (by omega)
  have h3:=ih (by omega)
  omega
theorem rd_runTo (n:Int) (l:List S88) (es:List S56) (m i:Nat) (h:i<m):rd_T48 (runTo n l es m) (i:Int)=runStep n l (stAt n l es i) (rd_T56 es (i:Int)):=by
 simp [rd_T48,runTo,h]
theorem gaps_dims (n:Int) (l:List S88) (es:List S56):(truth n l es).length=(run n l es).length∧(run n l es).length≤2000∧∀ i:Nat,i<(run n l es).length→(rd_L12 (truth n l es) (i:Int)).length=(rd_T48 (run n l es) (i:Int)).f1.f1.length∧(rd_T48 (run n l es) (i:Int)).f1.f1.length≤60:=by
 by_cases h:layoutOk n l=0∧es.length≤2000
 ·have hn:=lay_n h.1
  have hr:run n l es=runTo n l es es.length:=by rw [run,if_pos h]
  rw [hr]
  refine ⟨by rw [truth_len h.1 h.2,runTo_length],by rw [runTo_length];exact h.2,?_⟩
  intro i hi
  rw [runTo_length] at hi
  rw [truth_rd h.1 h.2 i hi,truthAt_length,rd_runTo n l es _ i hi,(runStep_len n l _ _).1,(stAt_len n l es i).1]
  exact ⟨rfl,by omega⟩
 have hr:run n l es=[]:=by rw [run,if_neg h]
 have ht:truth n l es=[]:=by rw [truth,if_neg h]
 rw [hr,ht]
 exact ⟨rfl,by simp,fun i hi=>absurd hi (by simp)⟩
theorem gaps_len (n:Int) (l:List S88) (es:List S56):(gaps n l es).length≤1000000:=by
 have h:=gaps_dims n l es
 have:=gapTo_len (rs:=run n l es) (tr:=truth n l es) (fun i hi=>(h.2.2 i hi).2) (run n l es).length (Nat.le_refl _)
 have h2:=h.2.1
 unfold gaps
 omega
theorem eqGapS_l0 (t:List S138) (hl:t.length≤1048576) (d:Nat):∀ (i:Nat),i+d=t.length→Ev (fun k=>laws_eqGapS.l0 k t t i) true:=by
 induction d with
 | zero=>intro i hi;refine Ev.step1 fun k=>?_;simp only [laws_eqGapS.l0];rw [if_neg (by omega)]
 | succ d ih =>
  intro i hi
  refine Ev.step (fun k=>?_) (ih (i+1) (by omega))
  simp only [laws_eqGapS.l0,laws_eqGap.f,if_true,bne_self_eq_false,Option.bind_some,Bool.false_eq_true,if_false,decide_true]
  rw [if_pos (by omega),if_pos (by omega),if_pos (by omega),wrap_succ (by omega)]
theorem eqGapS_ev (t:List S138) (hl:t.length≤1048576):Ev (fun k=>laws_eqGapS.f k t t) true:=by
 unfold laws_eqGapS.f
 exact Ev.ite_pos rfl (eqGapS_l0 t hl t.length 0 (by omega))
def mkG (k:Int):S138:=⟨k,k+1⟩
theorem markGapS_l0 (l:List S138) (a:Int) (ha:0≤a) (hl:a+2 * l.length≤4611686018427387903) (d:Nat):∀ (i:Nat),i+d=l.length →
  Ev (fun k=>laws_markGapS.l0 k ((marks mkG 2 a l.length).take i ++ l.drop i) (a+2 * i) i) (a+2 * l.length,marks mkG 2 a l.length):=by
 have hm:(marks mkG 2 a l.length).length=l.length:=marks_length _ _ _ _
 induction d with
 | zero =>
  intro i hi
  refine Ev.step1 fun k=>?_
  simp only [laws_markGapS.l0]
  rw [mid_length (by omega) hm,if_neg (by omega),List.take_of_length_le (by omega),List.drop_eq_nil_of_le (by omega),List.append_nil,show i=l.length by omega]
 | succ d ih =>
  intro i hi
  refine Ev.step (fun k=>?_) (ih (i+1) (by omega))
  have hlen:=mid_length (m:=marks mkG 2 a l.length) (l:=l) (i:=i) (by omega) hm
  simp only [laws_markGapS.l0,Option.bind_some]
  rw [hlen,if_pos (by omega),if_pos (by omega),wrap_succ (by omega),wrap_id (x:=a+2 * (i:Int)+1) (by omega) (by omega),wrap_id (by omega) (by omega)]
  have rd_set:∀ v:S138,rd_T138 (((marks mkG 2 a l.length).take i ++ l.drop i).set i v) (i:Int)=v:=by
   intro v
   simp only [rd_T138,Int.toNat_natCast]
   rw [List.getD_eq_getElem?_getD,List.getElem?_set_self (by omega),Option.getD_some]
  simp only [Int.toNat_natCast,List.set_set,rd_set]
  have hv:(⟨a+2 * (i:Int),a+2 * (i:Int)+1⟩:S138)=mkG (a+2 * i):=rfl
  rw [hv,set_mid (by omega) hm (v:=mkG (a+2 * i)) (marks_get _ _ _ _ _ (by omega))]
  rw [show a+2 * (i:Int)+1+1=a+2 * ((i+1:Nat):Int) by omega]
theorem markGapS_ev (l:List S138) (a:Int) (ha:0≤a) (hl:a+2 * l.length≤4611686018427387903):Ev (fun k=>laws_markGapS.f k l a) (a+2 * l.length,marks mkG 2 a l.length):=by
 unfold laws_markGapS.f
 simpa using markGapS_l0 l a ha hl l.length 0 (by omega)
theorem heldGapS_l0 (m:Nat) (a:Int) (ha:0≤a) (hl:a+2 * m≤4611686018427387903) (d:Nat):∀ (i:Nat),i+d=m→Ev (fun k=>laws_heldGapS.l0 k (marks mkG 2 a m) (a+2 * i) i) (a+2 * m):=by
 have hm:(marks mkG 2 a m).length=m:=marks_length _ _ _ _
 induction d with
 | zero=>intro i hi;refine Ev.step1 fun k=>?_;simp only [laws_heldGapS.l0];rw [if_neg (by omega),show i=m by omega]
 | succ d ih =>
  intro i hi
  have hg:rd_T138 (marks mkG 2 a m) (i:Int)=mkG (a+2 * i):=by
   simp only [rd_T138,Int.toNat_natCast]
   rw [List.getD_eq_getElem?_getD,List.getElem?_eq_getElem (by omega),Option.getD_some,marks_get _ _ _ _ _ (by omega)]
  refine Ev.step (fun k=>?_) (ih (i+1) (by omega))
  simp only [laws_heldGapS.l0,hg,mkG]
  rw [if_pos (by omega),if_pos (by omega),if_pos trivial,wrap_id (x:=a+2 * (i:Int)+1) (by omega) (by omega),if_pos rfl,wrap_id (by omega) (by omega),wrap_succ (by omega),
   show a+2 * (i:Int)+1+1=a+2 * ((i+1:Nat):Int) by omega]
theorem heldGapS_ev (m:Nat) (a:Int) (ha:0≤a) (hl:a+2 * m≤4611686018427387903):Ev (fun k=>laws_heldGapS.f k (marks mkG 2 a m) a) (a+2 * m):=by
 unfold laws_heldGapS.f
 simpa using heldGapS_l0 m a ha hl m 0 (by omega)
end Go.Proofs.Ytpdnabhpkdchjaa.P
namespace Go.Proofs.Ytpdnabhpkdchjaa.P
open Go.RowKit Go.Proofs.YtpdnabhpkdchjaaW.PrintWords Go.Proofs.YtpdnabhpkdchjaaW.PrintLast Go.Proofs.YtpdnabhpkdchjaaW.PrintMore
set_option linter.unusedVariables false
theorem R_off {α:Type} {d:Kd α} {e:Nat} {w:World} {base:Nat} {ok:Nat→Prop} {v:Value} {xs:List α} (hE:d.E=[]) (h:d.R e w base ok v xs) {p:Addr} (hne:some p.block ≠ v.ownBlock) (u:Value):d.R e (w.setCell p u) base (fun _=>True) v xs :=
 Kd.R_mono (Kd.R_far (Kd.R_tight hE h) (fun k hk hp=>hne (hp ▸ hk)) u) (fun _ _=>trivial)
theorem R_on {α:Type} {d:Kd α} {e:Nat} {w w':World} {base:Nat} {ok:Nat→Prop} {v:Value} {xs:List α} (hE:d.E=[]) (h:d.R e w base ok v xs) {row:Option Nat} (hg:w.grownBy w' row) (hne:row ≠ v.ownBlock):d.R e w' base (fun _=>True) v xs :=
 Kd.R_mono (Kd.R_step (Kd.R_tight hE h) (fun k hk hlt=>hg.block k hlt (fun c=>hne (c ▸ hk)))) (fun _ _=>trivial)
theorem R_up {α:Type} {d:Kd α} {e:Nat} {w w':World} {base:Nat} {ok:Nat→Prop} {v:Value} {xs:List α} (h:d.R e w base ok v xs) (hb:Below w.heap.size w w'):d.R e w' base (fun _=>True) v xs :=
 Kd.R_mono (Kd.R_step h (fun k hk hlt=>hb.block k hlt)) (fun _ _=>trivial)
end Go.Proofs.Ytpdnabhpkdchjaa.P
namespace Go.Proofs.Ytpdnabhpkdchjaa.P
open Go.RowKit Go.Proofs.YtpdnabhpkdchjaaW.PrintWords Go.Proofs.YtpdnabhpkdchjaaW.PrintLast Go.Proofs.YtpdnabhpkdchjaaW.PrintMore
attribute [local go_sem] max2_int min2_int max_two min_two max_three min_three max_four min_four
set_option linter.unusedVariables false
set_option linter.unusedSimpArgs false
def laws_szEventS.f (l0:List (S54)) (a1:Int):Option (Int):=if (wrap64 (a1 - (l0.length:Int)))<0 then (some (-1)) else (some (wrap64 (a1 - (l0.length:Int))))
set_option maxHeartbeats 8000000 in
set_option maxRecDepth 100000 in
theorem laws_szEventS.calls (A0:Option Addr) (c0:Nat) (l0:List (S54)) (a1:Int) (r:Int) (w:World) (hr0:Kd.C k54 w A0 l0.length l0) (hc0:l0.length≤c0) (h:laws_szEventS.f l0 a1=some r) :
  Calls Try.prog 48 #[.slice A0 l0.length c0,.int .i64 a1] w fun e w'=>e=.returned (.int .i64 r)∧Drawn0 w w':=by
 have HR0:=Aside0.mk hr0
 have HC0:=Aside0.mk hc0
 clear hr0 hc0
 have H:(if (wrap64 (a1 - (l0.length:Int)))<0 then (some (-1)) else (some (wrap64 (a1 - (l0.length:Int)))))=some r:=h
 clear h
 by_cases c3:(wrap64 (a1 - (l0.length:Int)))<0
 ·rw [if_pos c3] at H
  have c3b0:decide ((wrap64 (a1 - (l0.length:Int)))<0)=true:=decide_eq_true c3
  clear c3
  obtain rfl:=Option.some.inj H
  go_enter Try.func48,Try.ntmps48
  go_wp2
  go_ret
  exact ⟨by first|rfl|(simp;done)|(simp [*];done),by repeat (first|exact Drawn0.refl _|apply Drawn0.step)⟩
 rw [if_neg c3] at H
 have c3b0:decide ((wrap64 (a1 - (l0.length:Int)))<0)=false:=decide_eq_false c3
 clear c3
 obtain rfl:=Option.some.inj H
 go_enter Try.func48,Try.ntmps48
 go_wp2
 go_ret
 exact ⟨by first|rfl|(simp;done)|(simp [*];done),by repeat (first|exact Drawn0.refl _|apply Drawn0.step)⟩
end Go.Proofs.Ytpdnabhpkdchjaa.P
namespace Go.Proofs.Ytpdnabhpkdchjaa.P
open Go.RowKit Go.Proofs.YtpdnabhpkdchjaaW.PrintWords Go.Proofs.YtpdnabhpkdchjaaW.PrintLast Go.Proofs.YtpdnabhpkdchjaaW.PrintMore
attribute [local go_sem] max2_int min2_int max_two min_two max_three min_three max_four min_four
set_option linter.unusedVariables false
set_option linter.unusedSimpArgs false
def laws_toEventS.l0:Nat→List (S54)→List (S56)→Int→Option ((List (S56)))
 | 0,_,_,_=>none
 | k+1,x0,x3,x4=>if x4<(x0.length:Int) then (if 0≤x4 then ((laws_toEvent.f ((rd_T54 x0 x4).f0) ((rd_T54 x0 x4).f1) ((rd_T54 x0 x4).f2)).bind fun bt607=>(if x4<(x3.length:Int) then (laws_toEventS.l0 k x0 (x3.set (x4:Int).toNat (⟨bt607.1,bt607.2.1,bt607.2.2⟩:S56)) (wrap64 (x4+1))) else (none))) else (none)) else (some x3)
def laws_toEventS.f (k:Nat) (l0:List (S54)):Option ((List (S56))):=if 0≤(l0.length:Int) then (if ((l0.length:Int):Int).toNat≤11728124029610 then (laws_toEventS.l0 k l0 (List.replicate ((l0.length:Int):Int).toNat z56) 0) else (none)) else (none)
set_option maxHeartbeats 8000000 in
set_option maxRecDepth 100000 in
theorem laws_toEventS.calls (k:Nat) (A0:Option Addr) (c0:Nat) (l0:List (S54)) (r:List (S56)) (w:World) (hr0:Kd.C k54 w A0 l0.length l0) (hc0:l0.length≤c0) (h:laws_toEventS.f k l0=some r) :
  Calls Try.prog 50 #[.slice A0 l0.length c0] w fun e w'=>∃ v0_:Value,e=.returned (v0_)∧Kd.R k56 56 w' w.heap.size (fun _=>True) v0_ r∧Below w.heap.size w w':=by
 have hu54:=Try.underlying54
 have hu56:=Try.underlying56
 have HR0:=Aside0.mk hr0
 have HC0:=Aside0.mk hc0
 clear hr0 hc0
 have HB:=Aside0.mk (Below.refl w.heap.size w)
 have H:(if 0≤(l0.length:Int) then (if ((l0.length:Int):Int).toNat≤11728124029610 then (laws_toEventS.l0 k l0 (List.replicate ((l0.length:Int):Int).toNat z56) 0) else (none)) else (none))=some r:=h
 clear h
 by_cases c2:0≤(l0.length:Int)
 ·rw [if_pos c2] at H
  have c2b0:=eq_true c2
  have c2b1:decide (0≤(l0.length:Int))=true:=decide_eq_true c2
  clear c2
  by_cases c3:((l0.length:Int):Int).toNat≤11728124029610
  ·rw [if_pos c3] at H
   have c3b0:=eq_true c3
   have c3b1:decide (((l0.length:Int):Int).toNat≤11728124029610)=true:=decide_eq_true c3
   clear c3
   obtain ⟨y603,hy603⟩:∃ y_:List (S56),y_=(List.replicate ((l0.length:Int):Int).toNat z56):=⟨_,rfl⟩
   replace H:(laws_toEventS.l0 k l0 y603 0)=some r:=by first|(rw [hy603];with_reducible exact H)|(have H2_:=(Option.bind_some _ _).symm.trans H;rw [hy603];with_reducible exact H2_)|(have H2_:=(Option.bind_some _ _).symm.trans H;with_reducible exact H2_)|with_reducible exact H|(rw [hy603];exact H)|exact H
   have Ny603:=Aside0.mk hy603
   clear hy603
   have H':=Aside0.mk H
   clear H
   go_enter Try.func50,Try.ntmps50
   go_wp2_with (first|((with_reducible refine gate_dst (N:=7) rfl ?_);refine Kd.R_make k56 _ 56 rfl (N:=7) rfl 35 _ _ rfl (l0.length:Int) rfl rfl Try.underlying35 (.agg #[(.int .i64 0),(.int .i64 0),(.int .i64 0)]) 24 info56 rfl (by decide) (by omega) z56 (ok:=fun _=>True) (okp:=fun _=>True) (k56_mkM _ _ _ z56 ) (fun _ hk=>hk) trivial (of_decide_eq_true (by first|(with_reducible assumption)|assumption)) (Nat.le_trans (Nat.mul_le_mul_right _ (of_decide_eq_true (by first|(with_reducible assumption)|assumption):(l0.length:Int).toNat≤11728124029610)) (by omega)) (Below.refl _ _) (Nat.le_refl _) ?_;intro v604 w4 ho5 hb hg_ hnew_;clear hg_ hnew_;(first|rw [← Ny603.out] at ho5|(simp only [Int.reduceToNat] at ho5;rw [← Ny603.out] at ho5));have n0_:=Aside0.mk (Kd.R_lower ho5 (below_size (by repeat (first|(with_reducible first|exact HB.out|apply below_alloc|apply pw_below_drewN|apply below_drew1)|exact HB.out))));have n1_:=Aside0.mk (below_step (by repeat (first|(with_reducible first|exact HB.out|apply below_alloc|apply pw_below_drewN|apply below_drew1)|exact HB.out)) hb);clear HB;have HO605:=n0_;have HB:=n1_;clear n0_ n1_;clear hb ho5))
   go_loopg [4] k (fun kq v4 w'=>∃ (x3_1:List (S56)) (x4_1:Int),v4=.int .i64 x4_1∧Aside0 (laws_toEventS.l0 kq l0 x3_1 x4_1=some r)∧Aside0 (kq≤k)∧Aside0 (Kd.R k56 56 w' w.heap.size (fun _=>True) v604 x3_1)∧Aside0 (Below w.heap.size w w'))
   case atStart=>exact ⟨(y603),(0),(by first|rfl|(simp;done)|(simp [*];done)),H',⟨Nat.le_refl _⟩,⟨by (with_reducible repeat (first|apply Kd.R_alloc|apply Kd.R_drewN|apply Kd.R_drew));exact HO605.out⟩,⟨by repeat (first|(with_reducible first|exact HB.out|apply below_alloc|apply pw_below_drewN|apply below_drew1)|exact HB.out)⟩⟩
   case round =>
    clear H'
    try clear c2
    try clear c2b0
    try clear c2b1
    try clear p2
    try clear c3
    try clear c3b0
    try clear c3b1
    try clear c5
    obtain ⟨x3_1,x4_1,rfl,HA,HK1,HO_3,HB⟩:=hrel
    cases gk with
    | zero=>exact absurd HA.out (by simp [laws_toEventS.l0])
    | succ k1 =>
     have H:=HA.out
     clear HA
     simp only [laws_toEventS.l0] at H
     by_cases c6:x4_1<(l0.length:Int)
     ·rw [if_pos c6] at H
      have c6b0:decide (x4_1<(l0.length:Int))=true:=decide_eq_true c6
      clear c6
      by_cases c7:0≤x4_1
      ·rw [if_pos c7] at H
       have c7b0:decide (0≤x4_1)=true:=decide_eq_true c7
       clear c7
       replace H:=Option.bind_eq_some_iff.mp H
       obtain ⟨⟨t607,t608,t609⟩,A80,H⟩:=H
       replace H:(if x4_1<(x3_1.length:Int) then (laws_toEventS.l0 k1 l0 (x3_1.set (x4_1:Int).toNat (⟨t607,t608,t609⟩:S56)) (wrap64 (x4_1+1))) else (none))=some r:=H
       have A8:=Aside0.mk A80
       clear A80
       by_cases c9:x4_1<(x3_1.length:Int)
       ·rw [if_pos c9] at H
        have c9b0:decide (x4_1<(x3_1.length:Int))=true:=decide_eq_true c9
        clear c9
        obtain ⟨y610,hy610⟩:∃ y_:List (S56),y_=(x3_1.set (x4_1:Int).toNat (⟨t607,t608,t609⟩:S56)):=⟨_,rfl⟩
        replace H:(laws_toEventS.l0 k1 l0 y610 (wrap64 (x4_1+1)))=some r:=by first|(rw [hy610];with_reducible exact H)|(have H2_:=(Option.bind_some _ _).symm.trans H;rw [hy610];with_reducible exact H2_)|(have H2_:=(Option.bind_some _ _).symm.trans H;with_reducible exact H2_)|with_reducible exact H|(rw [hy610];exact H)|exact H
        have Ny610:=Aside0.mk hy610
        clear hy610
        have H':=Aside0.mk H
        clear H
        have p606:0≤(x4_1:Int):=of_decide_eq_true (by first|(with_reducible assumption)|assumption)
        have q606:x4_1<(l0.length:Int):=of_decide_eq_true (by first|(with_reducible assumption)|assumption)
        obtain ⟨ad606,e606,hx606_0,hx606_1,hx606_2⟩:=at_T54 HR0.out x4_1 p606 q606
        cases e606
        replace hx606_0:=(HB.out.cell (World.block_lt_of_cell? w _ hx606_0)).trans hx606_0
        replace hx606_1:=(HB.out.cell (World.block_lt_of_cell? w _ hx606_1)).trans hx606_1
        replace hx606_2:=(HB.out.cell (World.block_lt_of_cell? w _ hx606_2)).trans hx606_2
        replace p606:=eq_true p606
        replace q606:=eq_true q606
        go_wp2_with (first|((with_reducible refine gate_callee (f:=35) rfl ?_);refine goesL_ (some 20) rfl rfl Try.func35 (by kernel_rfl) rfl #[.agg #[.int .i64 ((rd_T54 l0 x4_1).f0),.int .i64 ((rd_T54 l0 x4_1).f1),.int .i64 ((rd_T54 l0 x4_1).f2)]] rfl (by (try simp only [List.map_toArray,List.map_cons,List.map_nil]);first|done|rfl|(simp only [List.length_drop,List.length_take];rfl)) ?_;(with_reducible refine (laws_toEvent.calls ((rd_T54 l0 x4_1).f0) ((rd_T54 l0 x4_1).f1) ((rd_T54 l0 x4_1).f2) t607 t608 t609 _ A8.out).mono ?_);rintro e w11 ⟨rfl,hb⟩;refine ⟨_,rfl,?_⟩;have n0_:=Aside0.mk (Kd.R_below (by (with_reducible repeat (first|apply Kd.R_alloc|apply Kd.R_drewN|apply Kd.R_drew));exact HO_3.out) hb);have n1_:=Aside0.mk (below_step (by repeat (first|(with_reducible first|exact HB.out|apply below_alloc|apply pw_below_drewN|apply below_drew1)|exact HB.out)) hb);clear HO_3;clear HB;have HO_3:=n0_;have HB:=n1_;clear n0_ n1_;(try clear hb);(try clear hb2);(try clear hk);(try clear hi);have p10:0≤(x4_1:Int):=of_decide_eq_true (by first|(with_reducible assumption)|assumption);have q10:(x4_1:Int)<((x3_1.length:Int):Int):=of_decide_eq_true (by first|(with_reducible assumption)|assumption);obtain ⟨go10,co10,eo10,gb10,gl10,cl10,HG10⟩:=Kd.R_form HO_3.out (by omega);(first|cases eo10|(injection eo10 with ea_ en_ ec_;(first|subst ea_|(injection ea_ with ea_;subst ea_));subst ec_;clear en_));have GB10:=Aside0.mk gb10;have GG10:=Aside0.mk HG10;clear gb10 gl10 HG10;obtain ⟨ce10,hcl10,hM10,hcc10,hfr10⟩:=Kd.R_elem HO_3.out z56 (x4_1:Int) p10 q10;obtain rfl:=k56_openM hM10;have hx10_0:w11.cell? ⟨go10,(x4_1:Int).toNat * 3,none⟩=some (.int .i64 ((rd_T56 x3_1 x4_1).f0)):=hcc10 0 _ rfl;have hx10_1:w11.cell? ⟨go10,(x4_1:Int).toNat * 3+1,none⟩=some (.int .i64 ((rd_T56 x3_1 x4_1).f1)):=hcc10 1 _ rfl;have hx10_2:w11.cell? ⟨go10,(x4_1:Int).toNat * 3+2,none⟩=some (.int .i64 ((rd_T56 x3_1 x4_1).f2)):=hcc10 2 _ rfl;have hf10_0:w11.frozen? ⟨go10,(x4_1:Int).toNat * 3,none⟩=false:=hfr10 0;have hf10_1:w11.frozen? ⟨go10,(x4_1:Int).toNat * 3+1,none⟩=false:=hfr10 1;have hf10_2:w11.frozen? ⟨go10,(x4_1:Int).toNat * 3+2,none⟩=false:=hfr10 2;clear hcl10 hcc10 hfr10 hM10;replace p10:=eq_true p10;replace q10:=eq_true q10;have HX12:=Aside0.mk (show Kd.R k56 56 w11 w.heap.size (fun _=>True) (.slice (some ⟨go10,0,none⟩) x3_1.length co10) x3_1 from (by (with_reducible repeat (first|apply Kd.R_alloc|apply Kd.R_drewN|apply Kd.R_drew));exact HO_3.out));obtain ⟨ce12,hcl12,hM12,hcc12,hfr12⟩:=Kd.R_elem HX12.out z56 (x4_1:Int) (of_decide_eq_true (by first|(with_reducible assumption)|assumption)) (by have h_:(x4_1:Int)<((x3_1.length:Int):Int):=of_decide_eq_true (by first|(with_reducible assumption)|assumption);first|exact h_|(have e_:=(Kd.R_reads' HO_3.out).1;omega)|simpa using h_);obtain rfl:=k56_openM hM12;have HP12:=Kd.R_seg HX12.out (x4_1:Int) (of_decide_eq_true (by first|(with_reducible assumption)|assumption)) (by have h_:(x4_1:Int)<((x3_1.length:Int):Int):=of_decide_eq_true (by first|(with_reducible assumption)|assumption);first|exact h_|(have e_:=(Kd.R_reads' HO_3.out).1;omega)|simpa using h_) (seg:=[.int .i64 t607,.int .i64 t608,.int .i64 t609]) (j:=0) hcl12 hcc12 (show 3≤3 from by decide) (x':=(⟨t607,t608,t609⟩:S56)) (k56_mkM _ _ _ (⟨t607,t608,t609⟩:S56) ) (fun _ hk=>hk);have hx12_0:=hcc12 0 _ rfl;(try simp only [show (k56).sz=3 from rfl,Nat.mul_one,Nat.add_zero] at hx12_0);have hf12_0:=hfr12 0;(try simp only [show (k56).sz=3 from rfl,Nat.mul_one,Nat.add_zero] at hf12_0);have hx12_1:=hcc12 1 _ rfl;(try simp only [show (k56).sz=3 from rfl,Nat.mul_one,Nat.add_zero] at hx12_1);have hf12_1:=hfr12 1;(try simp only [show (k56).sz=3 from rfl,Nat.mul_one,Nat.add_zero] at hf12_1);have hx12_2:=hcc12 2 _ rfl;(try simp only [show (k56).sz=3 from rfl,Nat.mul_one,Nat.add_zero] at hx12_2);have hf12_2:=hfr12 2;(try simp only [show (k56).sz=3 from rfl,Nat.mul_one,Nat.add_zero] at hf12_2);clear hcl12 hcc12 hfr12 hM12)|((with_reducible refine gate_store (t:=56) (p:=21) rfl ?_);refine store_event (t:=56) (p:=21) (v:=?vo_w13) (w1:=(((w11.setCell ⟨go10,(x4_1:Int).toNat * 3,none⟩ (.int .i64 t607)).setCell ⟨go10,(x4_1:Int).toNat * 3+1,none⟩ (.int .i64 t608)).setCell ⟨go10,(x4_1:Int).toNat * 3+2,none⟩ (.int .i64 t609))) ?hg ?ho ?hn ?hr ?_;(case ho=>rfl);(case hg=>rfl);(case hn=>rfl);(case hr=>first|(go_simp;done)|(go_simp;rfl));intro w13 hw;have hg:w11.grownBy w13 (some go10):=(by rw [hw];exact HP12.2);have hp_:Kd.R k56 56 w13 w.heap.size (fun _=>True) (.slice (some ⟨go10,0,none⟩) x3_1.length co10) y610:=(by rw [hw,Ny610.out];exact HP12.1);clear HP12;have n0_:=Aside0.mk (hp_);have n1_:=Aside0.mk ((by rw [hw];exact below_set (below_set (below_set (HB.out) GB10.out) GB10.out) GB10.out:Below w.heap.size w w13));clear HO_3;clear HB;have HO_3:=n0_;have HB:=n1_;clear n0_ n1_;clear hg hw hp_))
        go_roundg k1
        case measure=>have:=HK1.out;omega
        case rel=>exact ⟨(y610),(wrap64 (x4_1+1)),(by first|rfl|(simp;done)|(simp [*];done)),H',⟨by have:=HK1.out;omega⟩,⟨by (with_reducible repeat (first|apply Kd.R_alloc|apply Kd.R_drewN|apply Kd.R_drew));exact HO_3.out⟩,⟨by repeat (first|(with_reducible first|exact HB.out|apply below_alloc|apply pw_below_drewN|apply below_drew1)|exact HB.out)⟩⟩
       rw [if_neg c9] at H
       exact absurd H (by simp)
      rw [if_neg c7] at H
      exact absurd H (by simp)
     rw [if_neg c6] at H
     have c6b0:decide (x4_1<(l0.length:Int))=false:=decide_eq_false c6
     clear c6
     obtain rfl:=Option.some.inj H
     go_wp2
     go_ret
     exact ⟨_,by first|rfl|(simp [errW_none,errW_some] <;> rfl)|(simp [*,errW_none,errW_some] <;> rfl),by (with_reducible repeat (first|apply Kd.R_alloc|apply Kd.R_drewN|apply Kd.R_drew));exact HO_3.out,by repeat (first|(with_reducible first|exact HB.out|apply below_alloc|apply pw_below_drewN|apply below_drew1)|exact HB.out)⟩
  rw [if_neg c3] at H
  exact absurd H (by simp)
 rw [if_neg c2] at H
 exact absurd H (by simp)
end Go.Proofs.Ytpdnabhpkdchjaa.P
namespace Go.Proofs.Ytpdnabhpkdchjaa.P
open Go.RowKit Go.Proofs.YtpdnabhpkdchjaaW.PrintWords Go.Proofs.YtpdnabhpkdchjaaW.PrintLast Go.Proofs.YtpdnabhpkdchjaaW.PrintMore
attribute [local go_sem] max2_int min2_int max_two min_two max_three min_three max_four min_four
set_option linter.unusedVariables false
set_option linter.unusedSimpArgs false
def laws_eqEvent.f (a0_0:Int) (a0_1:Int) (a0_2:Int) (a1_0:Int) (a1_1:Int) (a1_2:Int):Option (Bool):=if a0_0=a1_0 then (if a0_1=a1_1 then (if a0_2=a1_2 then (some true) else (some false)) else (some false)) else (some false)
set_option maxHeartbeats 8000000 in
set_option maxRecDepth 100000 in
theorem laws_eqEvent.calls (a0_0:Int) (a0_1:Int) (a0_2:Int) (a1_0:Int) (a1_1:Int) (a1_2:Int) (r:Bool) (w:World) (h:laws_eqEvent.f a0_0 a0_1 a0_2 a1_0 a1_1 a1_2=some r) :
  Calls Try.prog 107 #[.agg #[.int .i64 a0_0,.int .i64 a0_1,.int .i64 a0_2],.agg #[.int .i64 a1_0,.int .i64 a1_1,.int .i64 a1_2]] w fun e w'=>e=.returned (.bool r)∧Below w.heap.size w w':=by
 have hu56:=Try.underlying56
 have HB:=Aside0.mk (Below.refl w.heap.size w)
 have H:(if a0_0=a1_0 then (if a0_1=a1_1 then (if a0_2=a1_2 then (some true) else (some false)) else (some false)) else (some false))=some r:=h
 clear h
 by_cases c3:a0_0=a1_0
 ·rw [if_pos c3] at H
  have c3b0:(a0_0==a1_0)=true:=beq_iff_eq.mpr c3
  have c3b1:(a0_0 != a1_0)=false:=bne_eq_false_iff_eq.mpr c3
  clear c3
  by_cases c4:a0_1=a1_1
  ·rw [if_pos c4] at H
   have c4b0:(a0_1==a1_1)=true:=beq_iff_eq.mpr c4
   have c4b1:(a0_1 != a1_1)=false:=bne_eq_false_iff_eq.mpr c4
   clear c4
   by_cases c5:a0_2=a1_2
   ·rw [if_pos c5] at H
    have c5b0:(a0_2==a1_2)=true:=beq_iff_eq.mpr c5
    have c5b1:(a0_2 != a1_2)=false:=bne_eq_false_iff_eq.mpr c5
    clear c5
    obtain rfl:=Option.some.inj H
    go_enter Try.func107,Try.ntmps107
    go_wp2_with (first|((with_reducible refine gate_dst (N:=2) rfl ?_);refine box_event ?hg (N:=2) ?hd (cs:=#[.int .i64 a0_0,.int .i64 a0_1,.int .i64 a0_2]) (t:=56) ?hr ?_;(case hd=>rfl);(case hg=>rfl);(case hr=>first|(go_simp;done)|(go_simp;rfl));intro gb677 hg w6 hbox hb;have n0_:=Aside0.mk (below_step (by exact HB.out) hb);have n1_:=Aside0.mk (hbox);have n2_:=Aside0.mk ((by rw [hg];exact (below_size (by exact HB.out)):w.heap.size≤gb677));have n3_:=Aside0.mk ((by rw [hg];exact (below_size (by exact HB.out)):w.heap.size≤gb677));clear HB;have HB:=n0_;have BK677:=n1_;have GW677:=n2_;have GE677:=n3_;clear n0_ n1_ n2_ n3_;clear hb hbox hg)|((with_reducible refine gate_dst (N:=3) rfl ?_);refine box_event ?hg (N:=3) ?hd (cs:=#[.int .i64 a1_0,.int .i64 a1_1,.int .i64 a1_2]) (t:=56) ?hr ?_;(case hd=>rfl);(case hg=>rfl);(case hr=>first|(go_simp;done)|(go_simp;rfl));intro gb678 hg w7 hbox hb;have n0_:=Aside0.mk (blk_below (g:=gb677) (o:=.cells #[.int .i64 a0_0,.int .i64 a0_1,.int .i64 a0_2] 56 (0,0)) (by exact BK677.out) hb);have n1_:=Aside0.mk (below_step (by exact HB.out) hb);have n2_:=Aside0.mk (hbox);have n3_:=Aside0.mk ((by rw [hg];exact (below_size (by exact HB.out)):w.heap.size≤gb678));have n4_:=Aside0.mk ((by rw [hg];exact (below_size (by exact HB.out)):w.heap.size≤gb678));have n5_:=Aside0.mk ((by rw [hg];exact Nat.ne_of_lt (blk_lt (g:=gb677) (o:=.cells #[.int .i64 a0_0,.int .i64 a0_1,.int .i64 a0_2] 56 (0,0)) (by exact BK677.out)):gb677 ≠ gb678));have n6_:=Aside0.mk ((by rw [hg];exact Nat.ne_of_gt (blk_lt (g:=gb677) (o:=.cells #[.int .i64 a0_0,.int .i64 a0_1,.int .i64 a0_2] 56 (0,0)) (by exact BK677.out)):gb678 ≠ gb677));clear BK677;clear HB;have BK677:=n0_;have HB:=n1_;have BK678:=n2_;have GW678:=n3_;have GE678:=n4_;have NB677_678:=n5_;have NB678_677:=n6_;clear n0_ n1_ n2_ n3_ n4_ n5_ n6_;clear hb hbox hg;have hnb8:=NB677_678.out;have hnc8:=NB678_677.out;have hcz9_0:w7.cell? ⟨gb677,0,none⟩=some (.int .i64 a0_0):=(blk_cell BK677.out 0).trans rfl;have hcz9_1:w7.cell? ⟨gb677,1,none⟩=some (.int .i64 a0_1):=(blk_cell BK677.out 1).trans rfl;have hcz9_2:w7.cell? ⟨gb677,2,none⟩=some (.int .i64 a0_2):=(blk_cell BK677.out 2).trans rfl;have hfz9_0:=blk_frozen BK677.out 0;have hfz9_1:=blk_frozen BK677.out 1;have hfz9_2:=blk_frozen BK677.out 2;have hcz10_0:w7.cell? ⟨gb678,0,none⟩=some (.int .i64 a1_0):=(blk_cell BK678.out 0).trans rfl;have hcz10_1:w7.cell? ⟨gb678,1,none⟩=some (.int .i64 a1_1):=(blk_cell BK678.out 1).trans rfl;have hcz10_2:w7.cell? ⟨gb678,2,none⟩=some (.int .i64 a1_2):=(blk_cell BK678.out 2).trans rfl;have hfz10_0:=blk_frozen BK678.out 0;have hfz10_1:=blk_frozen BK678.out 1;have hfz10_2:=blk_frozen BK678.out 2))
    go_ret
    exact ⟨by first|rfl|(simp [errW_none,errW_some] <;> rfl)|(simp [*,errW_none,errW_some] <;> rfl),by exact HB.out⟩
   rw [if_neg c5] at H
   have c5b0:(a0_2==a1_2)=false:=beq_eq_false_iff_ne.mpr c5
   have c5b1:(a0_2 != a1_2)=true:=bne_iff_ne.mpr c5
   obtain rfl:=Option.some.inj H
   go_enter Try.func107,Try.ntmps107
   go_wp2_with (first|((with_reducible refine gate_dst (N:=2) rfl ?_);refine box_event ?hg (N:=2) ?hd (cs:=#[.int .i64 a0_0,.int .i64 a0_1,.int .i64 a0_2]) (t:=56) ?hr ?_;(case hd=>rfl);(case hg=>rfl);(case hr=>first|(go_simp;done)|(go_simp;rfl));intro gb677 hg w11 hbox hb;have n0_:=Aside0.mk (below_step (by exact HB.out) hb);have n1_:=Aside0.mk (hbox);have n2_:=Aside0.mk ((by rw [hg];exact (below_size (by exact HB.out)):w.heap.size≤gb677));have n3_:=Aside0.mk ((by rw [hg];exact (below_size (by exact HB.out)):w.heap.size≤gb677));clear HB;have HB:=n0_;have BK677:=n1_;have GW677:=n2_;have GE677:=n3_;clear n0_ n1_ n2_ n3_;clear hb hbox hg)|((with_reducible refine gate_dst (N:=3) rfl ?_);refine box_event ?hg (N:=3) ?hd (cs:=#[.int .i64 a1_0,.int .i64 a1_1,.int .i64 a1_2]) (t:=56) ?hr ?_;(case hd=>rfl);(case hg=>rfl);(case hr=>first|(go_simp;done)|(go_simp;rfl));intro gb678 hg w12 hbox hb;have n0_:=Aside0.mk (blk_below (g:=gb677) (o:=.cells #[.int .i64 a0_0,.int .i64 a0_1,.int .i64 a0_2] 56 (0,0)) (by exact BK677.out) hb);have n1_:=Aside0.mk (below_step (by exact HB.out) hb);have n2_:=Aside0.mk (hbox);have n3_:=Aside0.mk ((by rw [hg];exact (below_size (by exact HB.out)):w.heap.size≤gb678));have n4_:=Aside0.mk ((by rw [hg];exact (below_size (by exact HB.out)):w.heap.size≤gb678));have n5_:=Aside0.mk ((by rw [hg];exact Nat.ne_of_lt (blk_lt (g:=gb677) (o:=.cells #[.int .i64 a0_0,.int .i64 a0_1,.int .i64 a0_2] 56 (0,0)) (by exact BK677.out)):gb677 ≠ gb678));have n6_:=Aside0.mk ((by rw [hg];exact Nat.ne_of_gt (blk_lt (g:=gb677) (o:=.cells #[.int .i64 a0_0,.int .i64 a0_1,.int .i64 a0_2] 56 (0,0)) (by exact BK677.out)):gb678 ≠ gb677));clear BK677;clear HB;have BK677:=n0_;have HB:=n1_;have BK678:=n2_;have GW678:=n3_;have GE678:=n4_;have NB677_678:=n5_;have NB678_677:=n6_;clear n0_ n1_ n2_ n3_ n4_ n5_ n6_;clear hb hbox hg;have hnb13:=NB677_678.out;have hnc13:=NB678_677.out;have hcz14_0:w12.cell? ⟨gb677,0,none⟩=some (.int .i64 a0_0):=(blk_cell BK677.out 0).trans rfl;have hcz14_1:w12.cell? ⟨gb677,1,none⟩=some (.int .i64 a0_1):=(blk_cell BK677.out 1).trans rfl;have hcz14_2:w12.cell? ⟨gb677,2,none⟩=some (.int .i64 a0_2):=(blk_cell BK677.out 2).trans rfl;have hfz14_0:=blk_frozen BK677.out 0;have hfz14_1:=blk_frozen BK677.out 1;have hfz14_2:=blk_frozen BK677.out 2;have hcz15_0:w12.cell? ⟨gb678,0,none⟩=some (.int .i64 a1_0):=(blk_cell BK678.out 0).trans rfl;have hcz15_1:w12.cell? ⟨gb678,1,none⟩=some (.int .i64 a1_1):=(blk_cell BK678.out 1).trans rfl;have hcz15_2:w12.cell? ⟨gb678,2,none⟩=some (.int .i64 a1_2):=(blk_cell BK678.out 2).trans rfl;have hfz15_0:=blk_frozen BK678.out 0;have hfz15_1:=blk_frozen BK678.out 1;have hfz15_2:=blk_frozen BK678.out 2))
   go_ret
   exact ⟨by first|rfl|(simp [errW_none,errW_some] <;> rfl)|(simp [*,errW_none,errW_some] <;> rfl),by exact HB.out⟩
  rw [if_neg c4] at H
  have c4b0:(a0_1==a1_1)=false:=beq_eq_false_iff_ne.mpr c4
  have c4b1:(a0_1 != a1_1)=true:=bne_iff_ne.mpr c4
  obtain rfl:=Option.some.inj H
  go_enter Try.func107,Try.ntmps107
  go_wp2_with (first|((with_reducible refine gate_dst (N:=2) rfl ?_);refine box_event ?hg (N:=2) ?hd (cs:=#[.int .i64 a0_0,.int .i64 a0_1,.int .i64 a0_2]) (t:=56) ?hr ?_;(case hd=>rfl);(case hg=>rfl);(case hr=>first|(go_simp;done)|(go_simp;rfl));intro gb677 hg w16 hbox hb;have n0_:=Aside0.mk (below_step (by exact HB.out) hb);have n1_:=Aside0.mk (hbox);have n2_:=Aside0.mk ((by rw [hg];exact (below_size (by exact HB.out)):w.heap.size≤gb677));have n3_:=Aside0.mk ((by rw [hg];exact (below_size (by exact HB.out)):w.heap.size≤gb677));clear HB;have HB:=n0_;have BK677:=n1_;have GW677:=n2_;have GE677:=n3_;clear n0_ n1_ n2_ n3_;clear hb hbox hg)|((with_reducible refine gate_dst (N:=3) rfl ?_);refine box_event ?hg (N:=3) ?hd (cs:=#[.int .i64 a1_0,.int .i64 a1_1,.int .i64 a1_2]) (t:=56) ?hr ?_;(case hd=>rfl);(case hg=>rfl);(case hr=>first|(go_simp;done)|(go_simp;rfl));intro gb678 hg w17 hbox hb;have n0_:=Aside0.mk (blk_below (g:=gb677) (o:=.cells #[.int .i64 a0_0,.int .i64 a0_1,.int .i64 a0_2] 56 (0,0)) (by exact BK677.out) hb);have n1_:=Aside0.mk (below_step (by exact HB.out) hb);have n2_:=Aside0.mk (hbox);have n3_:=Aside0.mk ((by rw [hg];exact (below_size (by exact HB.out)):w.heap.size≤gb678));have n4_:=Aside0.mk ((by rw [hg];exact (below_size (by exact HB.out)):w.heap.size≤gb678));have n5_:=Aside0.mk ((by rw [hg];exact Nat.ne_of_lt (blk_lt (g:=gb677) (o:=.cells #[.int .i64 a0_0,.int .i64 a0_1,.int .i64 a0_2] 56 (0,0)) (by exact BK677.out)):gb677 ≠ gb678));have n6_:=Aside0.mk ((by rw [hg];exact Nat.ne_of_gt (blk_lt (g:=gb677) (o:=.cells #[.int .i64 a0_0,.int .i64 a0_1,.int .i64 a0_2] 56 (0,0)) (by exact BK677.out)):gb678 ≠ gb677));clear BK677;clear HB;have BK677:=n0_;have HB:=n1_;have BK678:=n2_;have GW678:=n3_;have GE678:=n4_;have NB677_678:=n5_;have NB678_677:=n6_;clear n0_ n1_ n2_ n3_ n4_ n5_ n6_;clear hb hbox hg;have hnb18:=NB677_678.out;have hnc18:=NB678_677.out;have hcz19_0:w17.cell? ⟨gb677,0,none⟩=some (.int .i64 a0_0):=(blk_cell BK677.out 0).trans rfl;have hcz19_1:w17.cell? ⟨gb677,1,none⟩=some (.int .i64 a0_1):=(blk_cell BK677.out 1).trans rfl;have hcz19_2:w17.cell? ⟨gb677,2,none⟩=some (.int .i64 a0_2):=(blk_cell BK677.out 2).trans rfl;have hfz19_0:=blk_frozen BK677.out 0;have hfz19_1:=blk_frozen BK677.out 1;have hfz19_2:=blk_frozen BK677.out 2;have hcz20_0:w17.cell? ⟨gb678,0,none⟩=some (.int .i64 a1_0):=(blk_cell BK678.out 0).trans rfl;have hcz20_1:w17.cell? ⟨gb678,1,none⟩=some (.int .i64 a1_1):=(blk_cell BK678.out 1).trans rfl;have hcz20_2:w17.cell? ⟨gb678,2,none⟩=some (.int .i64 a1_2):=(blk_cell BK678.out 2).trans rfl;have hfz20_0:=blk_frozen BK678.out 0;have hfz20_1:=blk_frozen BK678.out 1;have hfz20_2:=blk_frozen BK678.out 2))
  go_ret
  exact ⟨by first|rfl|(simp [errW_none,errW_some] <;> rfl)|(simp [*,errW_none,errW_some] <;> rfl),by exact HB.out⟩
 rw [if_neg c3] at H
 have c3b0:(a0_0==a1_0)=false:=beq_eq_false_iff_ne.mpr c3
 have c3b1:(a0_0 != a1_0)=true:=bne_iff_ne.mpr c3
 obtain rfl:=Option.some.inj H
 go_enter Try.func107,Try.ntmps107
 go_wp2_with (first|((with_reducible refine gate_dst (N:=2) rfl ?_);refine box_event ?hg (N:=2) ?hd (cs:=#[.int .i64 a0_0,.int .i64 a0_1,.int .i64 a0_2]) (t:=56) ?hr ?_;(case hd=>rfl);(case hg=>rfl);(case hr=>first|(go_simp;done)|(go_simp;rfl));intro gb677 hg w21 hbox hb;have n0_:=Aside0.mk (below_step (by exact HB.out) hb);have n1_:=Aside0.mk (hbox);have n2_:=Aside0.mk ((by rw [hg];exact (below_size (by exact HB.out)):w.heap.size≤gb677));have n3_:=Aside0.mk ((by rw [hg];exact (below_size (by exact HB.out)):w.heap.size≤gb677));clear HB;have HB:=n0_;have BK677:=n1_;have GW677:=n2_;have GE677:=n3_;clear n0_ n1_ n2_ n3_;clear hb hbox hg)|((with_reducible refine gate_dst (N:=3) rfl ?_);refine box_event ?hg (N:=3) ?hd (cs:=#[.int .i64 a1_0,.int .i64 a1_1,.int .i64 a1_2]) (t:=56) ?hr ?_;(case hd=>rfl);(case hg=>rfl);(case hr=>first|(go_simp;done)|(go_simp;rfl));intro gb678 hg w22 hbox hb;have n0_:=Aside0.mk (blk_below (g:=gb677) (o:=.cells #[.int .i64 a0_0,.int .i64 a0_1,.int .i64 a0_2] 56 (0,0)) (by exact BK677.out) hb);have n1_:=Aside0.mk (below_step (by exact HB.out) hb);have n2_:=Aside0.mk (hbox);have n3_:=Aside0.mk ((by rw [hg];exact (below_size (by exact HB.out)):w.heap.size≤gb678));have n4_:=Aside0.mk ((by rw [hg];exact (below_size (by exact HB.out)):w.heap.size≤gb678));have n5_:=Aside0.mk ((by rw [hg];exact Nat.ne_of_lt (blk_lt (g:=gb677) (o:=.cells #[.int .i64 a0_0,.int .i64 a0_1,.int .i64 a0_2] 56 (0,0)) (by exact BK677.out)):gb677 ≠ gb678));have n6_:=Aside0.mk ((by rw [hg];exact Nat.ne_of_gt (blk_lt (g:=gb677) (o:=.cells #[.int .i64 a0_0,.int .i64 a0_1,.int .i64 a0_2] 56 (0,0)) (by exact BK677.out)):gb678 ≠ gb677));clear BK677;clear HB;have BK677:=n0_;have HB:=n1_;have BK678:=n2_;have GW678:=n3_;have GE678:=n4_;have NB677_678:=n5_;have NB678_677:=n6_;clear n0_ n1_ n2_ n3_ n4_ n5_ n6_;clear hb hbox hg;have hnb23:=NB677_678.out;have hnc23:=NB678_677.out;have hcz24_0:w22.cell? ⟨gb677,0,none⟩=some (.int .i64 a0_0):=(blk_cell BK677.out 0).trans rfl;have hcz24_1:w22.cell? ⟨gb677,1,none⟩=some (.int .i64 a0_1):=(blk_cell BK677.out 1).trans rfl;have hcz24_2:w22.cell? ⟨gb677,2,none⟩=some (.int .i64 a0_2):=(blk_cell BK677.out 2).trans rfl;have hfz24_0:=blk_frozen BK677.out 0;have hfz24_1:=blk_frozen BK677.out 1;have hfz24_2:=blk_frozen BK677.out 2;have hcz25_0:w22.cell? ⟨gb678,0,none⟩=some (.int .i64 a1_0):=(blk_cell BK678.out 0).trans rfl;have hcz25_1:w22.cell? ⟨gb678,1,none⟩=some (.int .i64 a1_1):=(blk_cell BK678.out 1).trans rfl;have hcz25_2:w22.cell? ⟨gb678,2,none⟩=some (.int .i64 a1_2):=(blk_cell BK678.out 2).trans rfl;have hfz25_0:=blk_frozen BK678.out 0;have hfz25_1:=blk_frozen BK678.out 1;have hfz25_2:=blk_frozen BK678.out 2))
 go_ret
 exact ⟨by first|rfl|(simp [errW_none,errW_some] <;> rfl)|(simp [*,errW_none,errW_some] <;> rfl),by exact HB.out⟩
end Go.Proofs.Ytpdnabhpkdchjaa.P
namespace Go.Proofs.Ytpdnabhpkdchjaa.P
open Go.RowKit Go.Proofs.YtpdnabhpkdchjaaW.PrintWords Go.Proofs.YtpdnabhpkdchjaaW.PrintLast Go.Proofs.YtpdnabhpkdchjaaW.PrintMore
attribute [local go_sem] max2_int min2_int max_two min_two max_three min_three max_four min_four
set_option linter.unusedVariables false
set_option linter.unusedSimpArgs false
def laws_eqEventS.l0:Nat→List (S56)→List (S56)→Int→Option (Bool)
 | 0,_,_,_=>none
 | k+1,x0,x1,x5=>if x5<(x0.length:Int) then (if 0≤x5 then (if x5<(x1.length:Int) then ((laws_eqEvent.f ((rd_T56 x0 x5).f0) ((rd_T56 x0 x5).f1) ((rd_T56 x0 x5).f2) ((rd_T56 x1 x5).f0) ((rd_T56 x1 x5).f1) ((rd_T56 x1 x5).f2)).bind fun t681=>(if t681=true then (laws_eqEventS.l0 k x0 x1 (wrap64 (x5+1))) else (some false))) else (none)) else (none)) else (some true)
def laws_eqEventS.f (k:Nat) (l0:List (S56)) (l1:List (S56)):Option (Bool):=if (l0.length:Int)=(l1.length:Int) then (laws_eqEventS.l0 k l0 l1 0) else (some false)
def laws_eqEventS.T6:Bool × List (List Nat × List Nat):=(true,[([],[]),([],[]),([0,1],[0,1]),([2],[2]),([],[]),([],[]),([4,5],[4,5]),([6],[6]),([3,7],[3,7]),([8],[8])])
def laws_eqEventS.B6:List Nat:=[0,0,3,7,0,0,48,112,255,511]
theorem laws_eqEventS.tab6:rtab .any (opsOf Try.f52 6)=laws_eqEventS.T6:=by kernel_rfl
theorem laws_eqEventS.bits6:waitsOk laws_eqEventS.T6.2 laws_eqEventS.B6=true:=by kernel_rfl
set_option maxHeartbeats 8000000 in
set_option maxRecDepth 100000 in
theorem laws_eqEventS.calls (k:Nat) (A0:Option Addr) (c0:Nat) (l0:List (S56)) (A1:Option Addr) (c1:Nat) (l1:List (S56)) (r:Bool) (w:World) (hr0:Kd.C k56 w A0 l0.length l0) (hc0:l0.length≤c0) (hr1:Kd.C k56 w A1 l1.length l1) (hc1:l1.length≤c1) (h:laws_eqEventS.f k l0 l1=some r) :
  Calls Try.prog 52 #[.slice A0 l0.length c0,.slice A1 l1.length c1] w fun e w'=>e=.returned (.bool r)∧Below w.heap.size w w':=by
 have hu56:=Try.underlying56
 have HR0:=Aside0.mk hr0
 have HC0:=Aside0.mk hc0
 clear hr0 hc0
 have HR1:=Aside0.mk hr1
 have HC1:=Aside0.mk hc1
 clear hr1 hc1
 have HB:=Aside0.mk (Below.refl w.heap.size w)
 have H:(if (l0.length:Int)=(l1.length:Int) then (laws_eqEventS.l0 k l0 l1 0) else (some false))=some r:=h
 clear h
 by_cases c3:(l0.length:Int)=(l1.length:Int)
 ·rw [if_pos c3] at H
  have c3b0:((l0.length:Int)==(l1.length:Int))=true:=beq_iff_eq.mpr c3
  have c3b1:((l0.length:Int) != (l1.length:Int))=false:=bne_eq_false_iff_eq.mpr c3
  have c3b2:(l0.length==l1.length)=true:=by first|simpa using c3|(simp at c3 ⊢;omega)
  clear c3
  have H':=Aside0.mk H
  clear H
  go_enter Try.func52,Try.ntmps52
  go_wp2
  go_loopg [5] k (fun kq v5 w'=>∃ (x5_1:Int),v5=.int .i64 x5_1∧Aside0 (laws_eqEventS.l0 kq l0 l1 x5_1=some r)∧Aside0 (kq≤k)∧Aside0 (Below w.heap.size w w'))
  case atStart=>exact ⟨(0),(by first|rfl|(simp;done)|(simp [*];done)),H',⟨Nat.le_refl _⟩,⟨by exact HB.out⟩⟩
  case round =>
   clear H'
   try clear c1
   try clear p2
   try clear c3
   try clear c3b0
   try clear c3b1
   try clear c3b2
   obtain ⟨x5_1,rfl,HA,HK1,HB⟩:=hrel
   cases gk with
   | zero=>exact absurd HA.out (by simp [laws_eqEventS.l0])
   | succ k1 =>
    have H:=HA.out
    clear HA
    simp only [laws_eqEventS.l0] at H
    by_cases c4:x5_1<(l0.length:Int)
    ·rw [if_pos c4] at H
     have c4b0:decide (x5_1<(l0.length:Int))=true:=decide_eq_true c4
     clear c4
     by_cases c5:0≤x5_1
     ·rw [if_pos c5] at H
      have c5b0:decide (0≤x5_1)=true:=decide_eq_true c5
      clear c5
      by_cases c6:x5_1<(l1.length:Int)
      ·rw [if_pos c6] at H
       have c6b0:decide (x5_1<(l1.length:Int))=true:=decide_eq_true c6
       clear c6
       replace H:=Option.bind_eq_some_iff.mp H
       obtain ⟨t681,A70,H⟩:=H
       replace H:(if t681=true then (laws_eqEventS.l0 k1 l0 l1 (wrap64 (x5_1+1))) else (some false))=some r:=H
       have A7:=Aside0.mk A70
       clear A70
       by_cases c8:t681=true
       ·subst c8
        have H1:(laws_eqEventS.l0 k1 l0 l1 (wrap64 (x5_1+1)))=some r:=by rw [if_pos rfl] at H;exact H
        clear H
        have H:=H1
        clear H1
        have H':=Aside0.mk H
        clear H
        try go_wp2
        have n0_:=Aside0.mk (below_drew1 HB.out)
        clear HB
        have HB:=n0_
        clear n0_
        have p679:0≤(x5_1:Int):=of_decide_eq_true (by first|(with_reducible assumption)|assumption)
        have q679:x5_1<(l0.length:Int):=of_decide_eq_true (by first|(with_reducible assumption)|assumption)
        obtain ⟨ad679,e679,hx679_0,hx679_1,hx679_2⟩:=at_T56 HR0.out x5_1 p679 q679
        have hw679_2:=hx679_2
        have hw679_1:=hx679_1
        have hw679_0:=hx679_0
        cases e679
        replace hx679_0:=(HB.out.cell (World.block_lt_of_cell? w _ hx679_0)).trans hx679_0
        replace hx679_1:=(HB.out.cell (World.block_lt_of_cell? w _ hx679_1)).trans hx679_1
        replace hx679_2:=(HB.out.cell (World.block_lt_of_cell? w _ hx679_2)).trans hx679_2
        replace p679:=eq_true p679
        replace q679:=eq_true q679
        have p680:0≤(x5_1:Int):=of_decide_eq_true (by first|(with_reducible assumption)|assumption)
        have q680:x5_1<(l1.length:Int):=of_decide_eq_true (by first|(with_reducible assumption)|assumption)
        obtain ⟨ad680,e680,hx680_0,hx680_1,hx680_2⟩:=at_T56 HR1.out x5_1 p680 q680
        have hw680_2:=hx680_2
        have hw680_1:=hx680_1
        have hw680_0:=hx680_0
        cases e680
        replace hx680_0:=(HB.out.cell (World.block_lt_of_cell? w _ hx680_0)).trans hx680_0
        replace hx680_1:=(HB.out.cell (World.block_lt_of_cell? w _ hx680_1)).trans hx680_1
        replace hx680_2:=(HB.out.cell (World.block_lt_of_cell? w _ hx680_2)).trans hx680_2
        replace p680:=eq_true p680
        replace q680:=eq_true q680
        refine start_ (n:=10) (S:=fun w'=>w'.cell? (ad679.add ((x5_1).toNat * 3))=some (.int .i64 ((rd_T56 l0 x5_1).f0))∧w'.cell? ⟨(ad679.add ((x5_1).toNat * 3)).block,(ad679.add ((x5_1).toNat * 3)).off+1,none⟩=some (.int .i64 ((rd_T56 l0 x5_1).f1))∧w'.cell? ⟨(ad679.add ((x5_1).toNat * 3)).block,(ad679.add ((x5_1).toNat * 3)).off+2,none⟩=some (.int .i64 ((rd_T56 l0 x5_1).f2))∧w'.cell? (ad680.add ((x5_1).toNat * 3))=some (.int .i64 ((rd_T56 l1 x5_1).f0))∧w'.cell? ⟨(ad680.add ((x5_1).toNat * 3)).block,(ad680.add ((x5_1).toNat * 3)).off+1,none⟩=some (.int .i64 ((rd_T56 l1 x5_1).f1))∧w'.cell? ⟨(ad680.add ((x5_1).toNat * 3)).block,(ad680.add ((x5_1).toNat * 3)).off+2,none⟩=some (.int .i64 ((rd_T56 l1 x5_1).f2))) (ds:=[]) #[false,false,false,false,false,false,false,false,false,false] (by kernel_rfl) rfl rfl ⟨((HB.out.cell (World.block_lt_of_cell? w _ hw679_0)).trans hw679_0),((HB.out.cell (World.block_lt_of_cell? w _ hw679_1)).trans hw679_1),((HB.out.cell (World.block_lt_of_cell? w _ hw679_2)).trans hw679_2),((HB.out.cell (World.block_lt_of_cell? w _ hw680_0)).trans hw680_0),((HB.out.cell (World.block_lt_of_cell? w _ hw680_1)).trans hw680_1),((HB.out.cell (World.block_lt_of_cell? w _ hw680_2)).trans hw680_2)⟩ (fun hHeld=>?_);refine with_tabW laws_eqEventS.tab6 laws_eqEventS.bits6 (fun HT_ HW_=>?_)
        generalize wr.drew=w9 at HB hx679_0 hx679_1 hx679_2 hx680_0 hx680_1 hx680_2 hHeld ⊢
        refine pure_ (i:=0) (N:=some 17) (v:=?_) (a':=?_) #[true,false,false,false,false,false,false,false,false,false] rfl rfl (any_of HT_.out (by kernel_rfl)) (fun _ _ _ h=>h) (Or.inl ⟨by rfl,?_⟩) ?_ ?_
        rotate_left
        ·intro w'
         go_simp
         with_reducible rfl
        rotate_left
        ·simp only [Act.put,List.setIfInBounds_toArray,List.set_cons_zero,List.set_cons_succ,i64_w,i32_w]
         rfl
        refine pure_ (i:=1) (N:=some 18) (v:=?_) (a':=?_) #[true,true,false,false,false,false,false,false,false,false] rfl rfl (any_of HT_.out (by kernel_rfl)) (fun _ _ _ h=>h) (Or.inl ⟨by rfl,?_⟩) ?_ ?_
        rotate_left
        ·intro w'
         go_simp
         with_reducible rfl
        rotate_left
        ·simp only [Act.put,List.setIfInBounds_toArray,List.set_cons_zero,List.set_cons_succ,i64_w,i32_w]
         rfl
        refine pure_ (i:=2) (N:=some 19) (v:=?_) (a':=?_) #[true,true,true,false,false,false,false,false,false,false] rfl rfl (any_of HT_.out (by kernel_rfl)) (fun _ _ _ h=>h) (Or.inl ⟨by rfl,?_⟩) ?_ ?_
        rotate_left
        ·intro w'
         go_simp
         with_reducible rfl
        rotate_left
        ·simp only [Act.put,List.setIfInBounds_toArray,List.set_cons_zero,List.set_cons_succ,i64_w,i32_w]
         rfl
        refine pure_ (i:=4) (N:=some 21) (v:=?_) (a':=?_) #[true,true,true,false,true,false,false,false,false,false] rfl rfl (any_of HT_.out (by kernel_rfl)) (fun _ _ _ h=>h) (Or.inl ⟨by rfl,?_⟩) ?_ ?_
        rotate_left
        ·intro w'
         go_simp
         with_reducible rfl
        rotate_left
        ·simp only [Act.put,List.setIfInBounds_toArray,List.set_cons_zero,List.set_cons_succ,i64_w,i32_w]
         rfl
        refine pure_ (i:=5) (N:=some 22) (v:=?_) (a':=?_) #[true,true,true,false,true,true,false,false,false,false] rfl rfl (any_of HT_.out (by kernel_rfl)) (fun _ _ _ h=>h) (Or.inl ⟨by rfl,?_⟩) ?_ ?_
        rotate_left
        ·intro w'
         go_simp
         with_reducible rfl
        rotate_left
        ·simp only [Act.put,List.setIfInBounds_toArray,List.set_cons_zero,List.set_cons_succ,i64_w,i32_w]
         rfl
        refine pure_ (i:=6) (N:=some 23) (v:=?_) (a':=?_) #[true,true,true,false,true,true,true,false,false,false] rfl rfl (any_of HT_.out (by kernel_rfl)) (fun _ _ _ h=>h) (Or.inl ⟨by rfl,?_⟩) ?_ ?_
        rotate_left
        ·intro w'
         go_simp
         with_reducible rfl
        rotate_left
        ·simp only [Act.put,List.setIfInBounds_toArray,List.set_cons_zero,List.set_cons_succ,i64_w,i32_w]
         rfl
        refine take_ (i:=3) (N:=some 20) (v:=?_) (a':=?_) #[true,true,true,true,true,true,true,false,false,false] rfl rfl (take_ofW HT_.out HW_.out (by kernel_rfl)) (fun _ _ _ h=>h) (Or.inl ⟨by rfl,?_⟩) hHeld ?_ ?_
        rotate_left
        ·rintro w' ⟨s0,s1,s2,s3,s4,s5⟩
         go_simp
         with_reducible rfl
        rotate_left
        ·simp only [Act.put,List.setIfInBounds_toArray,List.set_cons_zero,List.set_cons_succ,i64_w,i32_w]
         rfl
        refine take_ (i:=7) (N:=some 24) (v:=?_) (a':=?_) #[true,true,true,true,true,true,true,true,false,false] rfl rfl (take_ofW HT_.out HW_.out (by kernel_rfl)) (fun _ _ _ h=>h) (Or.inl ⟨by rfl,?_⟩) hHeld ?_ ?_
        rotate_left
        ·rintro w' ⟨s0,s1,s2,s3,s4,s5⟩
         go_simp
         with_reducible rfl
        rotate_left
        ·simp only [Act.put,List.setIfInBounds_toArray,List.set_cons_zero,List.set_cons_succ,i64_w,i32_w]
         rfl
        refine one_ (i:=8) (N:=some 25) #[true,true,true,true,true,true,true,true,true,false] rfl rfl (one_of HT_.out (by kernel_rfl)) (by decide) (fun K hK=>?_)
        refine goes_ Try.func107 (by kernel_rfl) rfl #[.agg #[.int .i64 ((rd_T56 l0 x5_1).f0),.int .i64 ((rd_T56 l0 x5_1).f1),.int .i64 ((rd_T56 l0 x5_1).f2)],.agg #[.int .i64 ((rd_T56 l1 x5_1).f0),.int .i64 ((rd_T56 l1 x5_1).f1),.int .i64 ((rd_T56 l1 x5_1).f2)]] (by rfl) rfl rfl (by (try simp only [List.map_toArray,List.map_cons,List.map_nil]);first|done|rfl|(simp only [List.length_drop,List.length_take];rfl)) ?_
        with_reducible refine (laws_eqEvent.calls ((rd_T56 l0 x5_1).f0) ((rd_T56 l0 x5_1).f1) ((rd_T56 l0 x5_1).f2) ((rd_T56 l1 x5_1).f0) ((rd_T56 l1 x5_1).f1) ((rd_T56 l1 x5_1).f2) true _ A7.out).mono ?_
        rintro e w10 ⟨rfl,hb⟩
        refine ⟨_,rfl,?_⟩
        have n0_:=Aside0.mk (below_step (by exact HB.out) hb)
        clear HB
        have HB:=n0_
        clear n0_
        (try clear hb)
        (try clear hb2)
        (try clear hk)
        (try clear hi)
        refine hK.out _ _ ⟨((HB.out.cell (World.block_lt_of_cell? w _ hw679_0)).trans hw679_0),((HB.out.cell (World.block_lt_of_cell? w _ hw679_1)).trans hw679_1),((HB.out.cell (World.block_lt_of_cell? w _ hw679_2)).trans hw679_2),((HB.out.cell (World.block_lt_of_cell? w _ hw680_0)).trans hw680_0),((HB.out.cell (World.block_lt_of_cell? w _ hw680_1)).trans hw680_1),((HB.out.cell (World.block_lt_of_cell? w _ hw680_2)).trans hw680_2)⟩ (fun hHeld=>?_)
        clear hK K
        refine norm_ (a':=?_) ?_ ?_
        rotate_left
        ·show Act.put _ (some 25) _=_
         simp only [Act.put,List.setIfInBounds_toArray,List.set_cons_zero,List.set_cons_succ,i64_w,i32_w]
         rfl
        refine pure_ (i:=9) (N:=some 26) (v:=?_) (a':=?_) #[true,true,true,true,true,true,true,true,true,true] rfl rfl (any_of HT_.out (by kernel_rfl)) (fun _ _ _ h=>h) (Or.inl ⟨by rfl,?_⟩) ?_ ?_
        rotate_left
        ·intro w'
         go_simp
         with_reducible rfl
        rotate_left
        ·simp only [Act.put,List.setIfInBounds_toArray,List.set_cons_zero,List.set_cons_succ,i64_w,i32_w]
         rfl
        refine done_ (done_of HT_.out (by kernel_rfl)) ?_
        try go_wp2
        go_roundg k1
        case measure=>have:=HK1.out;omega
        case rel=>exact ⟨(wrap64 (x5_1+1)),(by first|rfl|(simp;done)|(simp [*];done)),H',⟨by have:=HK1.out;omega⟩,⟨by exact HB.out⟩⟩
       replace c8:=Bool.eq_false_iff.mpr c8
       subst c8
       have H1:(some false)=some r:=by rw [if_neg (show ¬ (false=true) by decide)] at H;exact H
       clear H
       have H:=H1
       clear H1
       obtain rfl:=Option.some.inj H
       try go_wp2
       have n0_:=Aside0.mk (below_drew1 HB.out)
       clear HB
       have HB:=n0_
       clear n0_
       have p679:0≤(x5_1:Int):=of_decide_eq_true (by first|(with_reducible assumption)|assumption)
       have q679:x5_1<(l0.length:Int):=of_decide_eq_true (by first|(with_reducible assumption)|assumption)
       obtain ⟨ad679,e679,hx679_0,hx679_1,hx679_2⟩:=at_T56 HR0.out x5_1 p679 q679
       have hw679_2:=hx679_2
       have hw679_1:=hx679_1
       have hw679_0:=hx679_0
       cases e679
       replace hx679_0:=(HB.out.cell (World.block_lt_of_cell? w _ hx679_0)).trans hx679_0
       replace hx679_1:=(HB.out.cell (World.block_lt_of_cell? w _ hx679_1)).trans hx679_1
       replace hx679_2:=(HB.out.cell (World.block_lt_of_cell? w _ hx679_2)).trans hx679_2
       replace p679:=eq_true p679
       replace q679:=eq_true q679
       have p680:0≤(x5_1:Int):=of_decide_eq_true (by first|(with_reducible assumption)|assumption)
       have q680:x5_1<(l1.length:Int):=of_decide_eq_true (by first|(with_reducible assumption)|assumption)
       obtain ⟨ad680,e680,hx680_0,hx680_1,hx680_2⟩:=at_T56 HR1.out x5_1 p680 q680
       have hw680_2:=hx680_2
       have hw680_1:=hx680_1
       have hw680_0:=hx680_0
       cases e680
       replace hx680_0:=(HB.out.cell (World.block_lt_of_cell? w _ hx680_0)).trans hx680_0
       replace hx680_1:=(HB.out.cell (World.block_lt_of_cell? w _ hx680_1)).trans hx680_1
       replace hx680_2:=(HB.out.cell (World.block_lt_of_cell? w _ hx680_2)).trans hx680_2
       replace p680:=eq_true p680
       replace q680:=eq_true q680
       refine start_ (n:=10) (S:=fun w'=>w'.cell? (ad679.add ((x5_1).toNat * 3))=some (.int .i64 ((rd_T56 l0 x5_1).f0))∧w'.cell? ⟨(ad679.add ((x5_1).toNat * 3)).block,(ad679.add ((x5_1).toNat * 3)).off+1,none⟩=some (.int .i64 ((rd_T56 l0 x5_1).f1))∧w'.cell? ⟨(ad679.add ((x5_1).toNat * 3)).block,(ad679.add ((x5_1).toNat * 3)).off+2,none⟩=some (.int .i64 ((rd_T56 l0 x5_1).f2))∧w'.cell? (ad680.add ((x5_1).toNat * 3))=some (.int .i64 ((rd_T56 l1 x5_1).f0))∧w'.cell? ⟨(ad680.add ((x5_1).toNat * 3)).block,(ad680.add ((x5_1).toNat * 3)).off+1,none⟩=some (.int .i64 ((rd_T56 l1 x5_1).f1))∧w'.cell? ⟨(ad680.add ((x5_1).toNat * 3)).block,(ad680.add ((x5_1).toNat * 3)).off+2,none⟩=some (.int .i64 ((rd_T56 l1 x5_1).f2))) (ds:=[]) #[false,false,false,false,false,false,false,false,false,false] (by kernel_rfl) rfl rfl ⟨((HB.out.cell (World.block_lt_of_cell? w _ hw679_0)).trans hw679_0),((HB.out.cell (World.block_lt_of_cell? w _ hw679_1)).trans hw679_1),((HB.out.cell (World.block_lt_of_cell? w _ hw679_2)).trans hw679_2),((HB.out.cell (World.block_lt_of_cell? w _ hw680_0)).trans hw680_0),((HB.out.cell (World.block_lt_of_cell? w _ hw680_1)).trans hw680_1),((HB.out.cell (World.block_lt_of_cell? w _ hw680_2)).trans hw680_2)⟩ (fun hHeld=>?_);refine with_tabW laws_eqEventS.tab6 laws_eqEventS.bits6 (fun HT_ HW_=>?_)
       generalize wr.drew=w11 at HB hx679_0 hx679_1 hx679_2 hx680_0 hx680_1 hx680_2 hHeld ⊢
       refine pure_ (i:=0) (N:=some 17) (v:=?_) (a':=?_) #[true,false,false,false,false,false,false,false,false,false] rfl rfl (any_of HT_.out (by kernel_rfl)) (fun _ _ _ h=>h) (Or.inl ⟨by rfl,?_⟩) ?_ ?_
       rotate_left
       ·intro w'
        go_simp
        with_reducible rfl
       rotate_left
       ·simp only [Act.put,List.setIfInBounds_toArray,List.set_cons_zero,List.set_cons_succ,i64_w,i32_w]
        rfl
       refine pure_ (i:=1) (N:=some 18) (v:=?_) (a':=?_) #[true,true,false,false,false,false,false,false,false,false] rfl rfl (any_of HT_.out (by kernel_rfl)) (fun _ _ _ h=>h) (Or.inl ⟨by rfl,?_⟩) ?_ ?_
       rotate_left
       ·intro w'
        go_simp
        with_reducible rfl
       rotate_left
       ·simp only [Act.put,List.setIfInBounds_toArray,List.set_cons_zero,List.set_cons_succ,i64_w,i32_w]
        rfl
       refine pure_ (i:=2) (N:=some 19) (v:=?_) (a':=?_) #[true,true,true,false,false,false,false,false,false,false] rfl rfl (any_of HT_.out (by kernel_rfl)) (fun _ _ _ h=>h) (Or.inl ⟨by rfl,?_⟩) ?_ ?_
       rotate_left
       ·intro w'
        go_simp
        with_reducible rfl
       rotate_left
       ·simp only [Act.put,List.setIfInBounds_toArray,List.set_cons_zero,List.set_cons_succ,i64_w,i32_w]
        rfl
       refine pure_ (i:=4) (N:=some 21) (v:=?_) (a':=?_) #[true,true,true,false,true,false,false,false,false,false] rfl rfl (any_of HT_.out (by kernel_rfl)) (fun _ _ _ h=>h) (Or.inl ⟨by rfl,?_⟩) ?_ ?_
       rotate_left
       ·intro w'
        go_simp
        with_reducible rfl
       rotate_left
       ·simp only [Act.put,List.setIfInBounds_toArray,List.set_cons_zero,List.set_cons_succ,i64_w,i32_w]
        rfl
       refine pure_ (i:=5) (N:=some 22) (v:=?_) (a':=?_) #[true,true,true,false,true,true,false,false,false,false] rfl rfl (any_of HT_.out (by kernel_rfl)) (fun _ _ _ h=>h) (Or.inl ⟨by rfl,?_⟩) ?_ ?_
       rotate_left
       ·intro w'
        go_simp
        with_reducible rfl
       rotate_left
       ·simp only [Act.put,List.setIfInBounds_toArray,List.set_cons_zero,List.set_cons_succ,i64_w,i32_w]
        rfl
       refine pure_ (i:=6) (N:=some 23) (v:=?_) (a':=?_) #[true,true,true,false,true,true,true,false,false,false] rfl rfl (any_of HT_.out (by kernel_rfl)) (fun _ _ _ h=>h) (Or.inl ⟨by rfl,?_⟩) ?_ ?_
       rotate_left
       ·intro w'
        go_simp
        with_reducible rfl
       rotate_left
       ·simp only [Act.put,List.setIfInBounds_toArray,List.set_cons_zero,List.set_cons_succ,i64_w,i32_w]
        rfl
       refine take_ (i:=3) (N:=some 20) (v:=?_) (a':=?_) #[true,true,true,true,true,true,true,false,false,false] rfl rfl (take_ofW HT_.out HW_.out (by kernel_rfl)) (fun _ _ _ h=>h) (Or.inl ⟨by rfl,?_⟩) hHeld ?_ ?_
       rotate_left
       ·rintro w' ⟨s0,s1,s2,s3,s4,s5⟩
        go_simp
        with_reducible rfl
       rotate_left
       ·simp only [Act.put,List.setIfInBounds_toArray,List.set_cons_zero,List.set_cons_succ,i64_w,i32_w]
        rfl
       refine take_ (i:=7) (N:=some 24) (v:=?_) (a':=?_) #[true,true,true,true,true,true,true,true,false,false] rfl rfl (take_ofW HT_.out HW_.out (by kernel_rfl)) (fun _ _ _ h=>h) (Or.inl ⟨by rfl,?_⟩) hHeld ?_ ?_
       rotate_left
       ·rintro w' ⟨s0,s1,s2,s3,s4,s5⟩
        go_simp
        with_reducible rfl
       rotate_left
       ·simp only [Act.put,List.setIfInBounds_toArray,List.set_cons_zero,List.set_cons_succ,i64_w,i32_w]
        rfl
       refine one_ (i:=8) (N:=some 25) #[true,true,true,true,true,true,true,true,true,false] rfl rfl (one_of HT_.out (by kernel_rfl)) (by decide) (fun K hK=>?_)
       refine goes_ Try.func107 (by kernel_rfl) rfl #[.agg #[.int .i64 ((rd_T56 l0 x5_1).f0),.int .i64 ((rd_T56 l0 x5_1).f1),.int .i64 ((rd_T56 l0 x5_1).f2)],.agg #[.int .i64 ((rd_T56 l1 x5_1).f0),.int .i64 ((rd_T56 l1 x5_1).f1),.int .i64 ((rd_T56 l1 x5_1).f2)]] (by rfl) rfl rfl (by (try simp only [List.map_toArray,List.map_cons,List.map_nil]);first|done|rfl|(simp only [List.length_drop,List.length_take];rfl)) ?_
       with_reducible refine (laws_eqEvent.calls ((rd_T56 l0 x5_1).f0) ((rd_T56 l0 x5_1).f1) ((rd_T56 l0 x5_1).f2) ((rd_T56 l1 x5_1).f0) ((rd_T56 l1 x5_1).f1) ((rd_T56 l1 x5_1).f2) false _ A7.out).mono ?_
       rintro e w12 ⟨rfl,hb⟩
       refine ⟨_,rfl,?_⟩
       have n0_:=Aside0.mk (below_step (by exact HB.out) hb)
       clear HB
       have HB:=n0_
       clear n0_
       (try clear hb)
       (try clear hb2)
       (try clear hk)
       (try clear hi)
       refine hK.out _ _ ⟨((HB.out.cell (World.block_lt_of_cell? w _ hw679_0)).trans hw679_0),((HB.out.cell (World.block_lt_of_cell? w _ hw679_1)).trans hw679_1),((HB.out.cell (World.block_lt_of_cell? w _ hw679_2)).trans hw679_2),((HB.out.cell (World.block_lt_of_cell? w _ hw680_0)).trans hw680_0),((HB.out.cell (World.block_lt_of_cell? w _ hw680_1)).trans hw680_1),((HB.out.cell (World.block_lt_of_cell? w _ hw680_2)).trans hw680_2)⟩ (fun hHeld=>?_)
       clear hK K
       refine norm_ (a':=?_) ?_ ?_
       rotate_left
       ·show Act.put _ (some 25) _=_
        simp only [Act.put,List.setIfInBounds_toArray,List.set_cons_zero,List.set_cons_succ,i64_w,i32_w]
        rfl
       refine pure_ (i:=9) (N:=some 26) (v:=?_) (a':=?_) #[true,true,true,true,true,true,true,true,true,true] rfl rfl (any_of HT_.out (by kernel_rfl)) (fun _ _ _ h=>h) (Or.inl ⟨by rfl,?_⟩) ?_ ?_
       rotate_left
       ·intro w'
        go_simp
        with_reducible rfl
       rotate_left
       ·simp only [Act.put,List.setIfInBounds_toArray,List.set_cons_zero,List.set_cons_succ,i64_w,i32_w]
        rfl
       refine done_ (done_of HT_.out (by kernel_rfl)) ?_
       try go_wp2
       go_ret
       exact ⟨by first|rfl|(simp [errW_none,errW_some] <;> rfl)|(simp [*,errW_none,errW_some] <;> rfl),by exact HB.out⟩
      rw [if_neg c6] at H
      exact absurd H (by simp)
     rw [if_neg c5] at H
     exact absurd H (by simp)
    rw [if_neg c4] at H
    have c4b0:decide (x5_1<(l0.length:Int))=false:=decide_eq_false c4
    clear c4
    obtain rfl:=Option.some.inj H
    go_wp2
    go_ret
    exact ⟨by first|rfl|(simp [errW_none,errW_some] <;> rfl)|(simp [*,errW_none,errW_some] <;> rfl),by exact HB.out⟩
 rw [if_neg c3] at H
 have c3b0:((l0.length:Int)==(l1.length:Int))=false:=beq_eq_false_iff_ne.mpr c3
 have c3b1:((l0.length:Int) != (l1.length:Int))=true:=bne_iff_ne.mpr c3
 have c3b2:(l0.length==l1.length)=false:=by first|simpa using c3|(simp at c3 ⊢;omega)
 obtain rfl:=Option.some.inj H
 go_enter Try.func52,Try.ntmps52
 go_wp2
 go_ret
 exact ⟨by first|rfl|(simp [errW_none,errW_some] <;> rfl)|(simp [*,errW_none,errW_some] <;> rfl),by exact HB.out⟩
end Go.Proofs.Ytpdnabhpkdchjaa.P
namespace Go.Proofs.Ytpdnabhpkdchjaa.P
open Go.RowKit Go.Proofs.YtpdnabhpkdchjaaW.PrintWords Go.Proofs.YtpdnabhpkdchjaaW.PrintLast
set_option linter.unusedVariables false
set_option linter.unusedSimpArgs false
theorem szEventS_eq (l:List S54) (left:Int) (h0:0≤left) (h1:left≤1048576) (hl:l.length≤9223372036854775807) :
  laws_szEventS.f l left=some (if left<(l.length:Int) then -1 else left - l.length):=by
 unfold laws_szEventS.f
 rw [wrap_id (by omega) (by omega)]
 by_cases h:left<(l.length:Int)
 ·rw [if_pos (by omega),if_pos h]
 rw [if_neg (by omega),if_neg h]
def cvE (x:S54):S56:=⟨x.f0,x.f1,x.f2⟩
theorem rd54 (l:List S54) (i:Nat) (h:i<l.length):rd_T54 l (i:Int)=l[i]:=by simp [rd_T54,h]
theorem toEventS_l0 (l:List S54) (hl:l.length≤1048576) (d:Nat):∀ (i:Nat),i+d=l.length→Ev (fun k=>laws_toEventS.l0 k l ((l.take i).map cvE ++ List.replicate d z56) i) (l.map cvE):=by
 induction d with
 | zero =>
  intro i hi
  refine Ev.step1 fun k=>?_
  simp only [laws_toEventS.l0]
  rw [if_neg (by omega),List.take_of_length_le (by omega)]
  simp
 | succ d ih =>
  intro i hi
  have hlt:i<l.length:=by omega
  refine Ev.step (fun k=>?_) (ih (i+1) (by omega))
  simp only [laws_toEventS.l0,laws_toEvent.f]
  rw [if_pos (by omega),if_pos (by omega)]
  simp only [Option.bind_some]
  rw [if_pos (by simp;omega),wrap_succ (by omega),rd54 l i hlt]
  congr 1
  rw [Int.toNat_natCast,List.set_append_right _ _ (by simp;omega)]
  simp only [List.map_take,List.length_take,List.length_map,Nat.min_eq_left (Nat.le_of_lt hlt),Nat.sub_self,List.replicate_succ,List.set_cons_zero]
  rw [List.take_succ_eq_append_getElem (by simpa using hlt)]
  simp [cvE]
theorem toEventS_ev (l:List S54) (hl:l.length≤1048576):Ev (fun k=>laws_toEventS.f k l) (l.map cvE):=by
 unfold laws_toEventS.f
 refine Ev.ite_pos (by omega) (Ev.ite_pos (by omega) ?_)
 simpa using toEventS_l0 l hl l.length 0 (by omega)
theorem eqEventS_l0 (l:List S56) (hl:l.length≤1048576) (d:Nat):∀ (i:Nat),i+d=l.length→Ev (fun k=>laws_eqEventS.l0 k l l i) true:=by
 induction d with
 | zero=>intro i hi;refine Ev.step1 fun k=>?_;simp only [laws_eqEventS.l0];rw [if_neg (by omega)]
 | succ d ih =>
  intro i hi
  refine Ev.step (fun k=>?_) (ih (i+1) (by omega))
  simp only [laws_eqEventS.l0,laws_eqEvent.f,if_true,Option.bind_some]
  rw [if_pos (by omega),if_pos (by omega),if_pos (by omega),wrap_succ (by omega)]
theorem eqEventS_ev (l:List S56) (hl:l.length≤1048576):Ev (fun k=>laws_eqEventS.f k l l) true:=by
 unfold laws_eqEventS.f
 exact Ev.ite_pos rfl (eqEventS_l0 l hl l.length 0 (by omega))
end Go.Proofs.Ytpdnabhpkdchjaa.P
namespace Go.Proofs.Ytpdnabhpkdchjaa.P
open Go.RowKit Go.Proofs.YtpdnabhpkdchjaaW.PrintWords Go.Proofs.YtpdnabhpkdchjaaW.PrintLast Go.Proofs.YtpdnabhpkdchjaaW.PrintMore
set_option linter.unusedVariables false
section
variable {n : Int} {A : Option Addr} {c : Nat} {l : List S88} {w : World}
theorem lay_is (hr:Kd.C k88 w A l.length l) (hc:l.length≤c):Calls Try.prog 25 #[.agg #[.int .i64 n,.slice A l.length c]] w fun e w'=>e=.returned (.int .i64 (layoutOk n l))∧Below w.heap.size w w' :=
 impl_LayoutOk.calls n A c l _ w hr hc rfl
theorem slay_is (hr:Kd.C k88 w A l.length l) (hc:l.length≤c):Calls Try.prog 23 #[.agg #[.int .i64 n,.slice A l.length c]] w fun e w'=>e=.returned (.int .i64 (layoutOk n l))∧Below w.heap.size w w':=by
 obtain ⟨k,h⟩:=(specLayoutOk_ev n l).rounds
 exact spec_LayoutOk.calls k n A c l _ w hr hc h
theorem ev_is (op of dir:Int) (hr:Kd.C k88 w A l.length l) (hc:l.length≤c):Calls Try.prog 36 #[.agg #[.int .i64 n,.slice A l.length c],.agg #[.int .i64 op,.int .i64 of,.int .i64 dir]] w fun e w'=>e=.returned (.bool (eventOk n l op of dir))∧Below w.heap.size w w':=by
 obtain ⟨k,h⟩:=(implEventOk_ev n l op of dir).rounds
 exact impl_EventOk.calls k n A c l op of dir _ w hr hc h
theorem ev_at {b:Bool} (op of dir:Int) (hb:eventOk n l op of dir=b) (hr:Kd.C k88 w A l.length l) (hc:l.length≤c):Calls Try.prog 36 #[.agg #[.int .i64 n,.slice A l.length c],.agg #[.int .i64 op,.int .i64 of,.int .i64 dir]] w fun e w'=>e=.returned (.bool b)∧Below w.heap.size w w':=hb ▸ ev_is op of dir hr hc
theorem sev_is (op of dir:Int) (hr:Kd.C k88 w A l.length l) (hc:l.length≤c):Calls Try.prog 34 #[.agg #[.int .i64 n,.slice A l.length c],.agg #[.int .i64 op,.int .i64 of,.int .i64 dir]] w fun e w'=>e=.returned (.bool (eventOk n l op of dir))∧Below w.heap.size w w':=by
 obtain ⟨k,h⟩:=(specEventOk_ev n l op of dir).rounds
 exact spec_EventOk.calls k n A c l op of dir _ w hr hc h
variable {A1 : Option Addr} {c1 : Nat} {es : List S56}
theorem truth_is (hr:Kd.C k88 w A l.length l) (hc:l.length≤c) (hr1:Kd.C k56 w A1 es.length es) (hc1:es.length≤c1):Calls Try.prog 54 #[.agg #[.int .i64 n,.slice A l.length c],.slice A1 es.length c1] w fun e w'=>∃ v0_:Value,e=.returned (v0_)∧Kd.S (Kd.slice 3 (Kd.int .i64)) 59 w' w.heap.size (fun _=>True) v0_ (truth n l es)∧Below w.heap.size w w':=by
 obtain ⟨k,h⟩:=(implTruth_ev n l es).rounds
 exact impl_Truth.calls k n A c l A1 c1 es _ w hr hc hr1 hc1 h
theorem struth_is (hr:Kd.C k88 w A l.length l) (hc:l.length≤c) (hr1:Kd.C k56 w A1 es.length es) (hc1:es.length≤c1):Calls Try.prog 58 #[.agg #[.int .i64 n,.slice A l.length c],.slice A1 es.length c1] w fun e w'=>∃ v0_:Value,e=.returned (v0_)∧Kd.S (Kd.slice 3 (Kd.int .i64)) 59 w' w.heap.size (fun _=>True) v0_ (truth n l es)∧Below w.heap.size w w':=by
 obtain ⟨k,h⟩:=(specTruth_ev n l es).rounds
 exact spec_Truth.calls k n A c l A1 c1 es _ w hr hc hr1 hc1 h
end
end Go.Proofs.Ytpdnabhpkdchjaa.P
