/- The statement FnSwap holds of the given program, for every argument; there are no conditions. (Part 4 of 6.) -/
import Derived.Test.YtpdnabhpkdchjaaBFnSwap3
import Derived.Deep.RegionWith
import Derived.Deep.DrawnRows
namespace Go.Proofs.Ytpdnabhpkdchjaa.P
open Go.RowKit Go.Proofs.YtpdnabhpkdchjaaW.PrintWords Go.Proofs.YtpdnabhpkdchjaaW.PrintLast Go.Proofs.YtpdnabhpkdchjaaW.PrintMore
attribute [local go_sem] max2_int min2_int max_two min_two max_three min_three max_four min_four
set_option linter.unusedVariables false
set_option linter.unusedSimpArgs false
def spec_l2dead.l0:Nat→List Bool→List Int→Int→Int→Option (Bool)
 | 0,_,_,_,_=>none
 | k+1,x1,x11,x12,x13=>if x13<x12 then (if 0≤x13 then (if x13<(x11.length:Int) then (if 0≤(rd x11 x13) then (if (rd x11 x13)<(x1.length:Int) then (if rdOf false x1 (rd x11 x13)=true then (some true) else (spec_l2dead.l0 k x1 x11 x12 (wrap64 (x13+1)))) else (none)) else (none)) else (none)) else (none)) else (some false)
def spec_l2dead.f (k:Nat) (a0_0:Int) (l0_1:List (S88)) (l1:List Bool) (a2:Int):Option (Bool):=(spec_Around.f k a0_0 l0_1 a2).bind fun t235=>(spec_l2dead.l0 k l1 t235 (t235.length:Int) 0)
set_option maxHeartbeats 8000000 in
set_option maxRecDepth 100000 in
theorem spec_l2dead.calls (k:Nat) (a0_0:Int) (A0_1:Option Addr) (c0_1:Nat) (l0_1:List (S88)) (A1:Option Addr) (c1:Nat) (l1:List Bool) (a2:Int) (r:Bool) (w:World) (hr0_1:Kd.C k88 w A0_1 l0_1.length l0_1) (hc0_1:l0_1.length≤c0_1) (hr1:Kd.C Kd.bool w A1 l1.length l1) (hc1:l1.length≤c1) (h:spec_l2dead.f k a0_0 l0_1 l1 a2=some r) :
  Calls Try.prog 114 #[.agg #[.int .i64 a0_0,.slice A0_1 l0_1.length c0_1],.slice A1 l1.length c1,.int .i64 a2] w fun e w'=>e=.returned (.bool r)∧Below w.heap.size w w':=by
 have hu30:=Try.underlying30
 have HR0_1:=Aside0.mk hr0_1
 have HC0_1:=Aside0.mk hc0_1
 clear hr0_1 hc0_1
 have HR1:=Aside0.mk hr1
 have HC1:=Aside0.mk hc1
 clear hr1 hc1
 have HB:=Aside0.mk (Below.refl w.heap.size w)
 have H:((spec_Around.f k a0_0 l0_1 a2).bind fun t235=>(spec_l2dead.l0 k l1 t235 (t235.length:Int) 0))=some r:=h
 clear h
 replace H:=Option.bind_eq_some_iff.mp H
 obtain ⟨t235,A40,H⟩:=H
 replace H:(spec_l2dead.l0 k l1 t235 (t235.length:Int) 0)=some r:=H
 have A4:=Aside0.mk A40
 clear A40
 have H':=Aside0.mk H
 clear H
 go_enter Try.func114,Try.ntmps114
 go_wp2_with (first|((with_reducible refine gate_dst (N:=3) rfl ?_);refine box_event ?hg (N:=3) ?hd (cs:=#[.int .i64 a0_0,.slice A0_1 l0_1.length c0_1]) (t:=30) ?hr ?_;(case hd=>rfl);(case hg=>rfl);(case hr=>first|(go_simp;done)|(go_simp;rfl));intro gb234 hg w5 hbox hb;have n0_:=Aside0.mk (below_step (by repeat (first|(with_reducible first|exact HB.out|apply below_alloc|apply pw_below_drewN|apply below_drew1)|exact HB.out)) hb);have n1_:=Aside0.mk (hbox);have n2_:=Aside0.mk ((by rw [hg];exact (below_size (by repeat (first|(with_reducible first|exact HB.out|apply below_alloc|apply pw_below_drewN|apply below_drew1)|exact HB.out))):w.heap.size≤gb234));have n3_:=Aside0.mk ((by rw [hg];exact (below_size (by repeat (first|(with_reducible first|exact HB.out|apply below_alloc|apply pw_below_drewN|apply below_drew1)|exact HB.out))):w.heap.size≤gb234));clear HB;have HB:=n0_;have BK234:=n1_;have GW234:=n2_;have GE234:=n3_;clear n0_ n1_ n2_ n3_;clear hb hbox hg;have hcz6_0:w5.cell? ⟨gb234,0,none⟩=some (.int .i64 a0_0):=(blk_cell BK234.out 0).trans rfl;have hcz6_1:w5.cell? ⟨gb234,1,none⟩=some (.slice A0_1 l0_1.length c0_1):=(blk_cell BK234.out 1).trans rfl;have hfz6_0:=blk_frozen BK234.out 0;have hfz6_1:=blk_frozen BK234.out 1)|((with_reducible refine gate_callee (f:=37) rfl ?_);refine goesL_ (some 11) rfl rfl Try.func37 (by kernel_rfl) rfl #[.agg #[.int .i64 a0_0,.slice A0_1 l0_1.length c0_1],.int .i64 a2] rfl (by (try simp only [List.map_toArray,List.map_cons,List.map_nil]);first|done|rfl|(simp only [List.length_drop,List.length_take];rfl)) ?_;(with_reducible refine (spec_Around.calls k a0_0 _ _ l0_1 a2 t235 _ ?side1 ?side2 A4.out).mono ?_);(case side1=>repeat (first|exact (Kd.C_below HR0_1.out HB.out)|(with_reducible refine Kd.C_alloc ?_ _)|(with_reducible refine Kd.C_drewN ?_ _)|(with_reducible refine Kd.C_drew ?_)));(case side2=>exact HC0_1.out);rintro e w7 ⟨v236,rfl,ho0,hb⟩;refine ⟨_,rfl,?_⟩;have n0_:=Aside0.mk (Kd.R_lower ho0 (below_size (by repeat (first|(with_reducible first|exact HB.out|apply below_alloc|apply pw_below_drewN|apply below_drew1|refine below_set ?_ GE234.out)|exact HB.out))));have n1_:=Aside0.mk (blk_below (g:=gb234) (o:=.cells #[.int .i64 a0_0,.slice A0_1 l0_1.length c0_1] 30 (0,0)) (by (with_reducible repeat (first|refine blk_drewN ?_ _|refine blk_drew ?_|refine blk_alloc ?_ _));exact BK234.out) hb);have n2_:=Aside0.mk (below_step (by repeat (first|(with_reducible first|exact HB.out|apply below_alloc|apply pw_below_drewN|apply below_drew1|refine below_set ?_ GE234.out)|exact HB.out)) hb);clear BK234;clear HB;have HO237:=n0_;have BK234:=n1_;have HB:=n2_;clear n0_ n1_ n2_;(try clear hb);(try clear hb2);(try clear hk);(try clear hi);(try clear ho0);obtain ⟨Ao8,co8,eo8⟩:=Kd.R_slice HO237.out;subst eo8))
 go_loopg [13] k (fun kq v13 w'=>∃ (x13_1:Int),v13=.int .i64 x13_1∧Aside0 (spec_l2dead.l0 kq l1 t235 (t235.length:Int) x13_1=some r)∧Aside0 (kq≤k)∧Aside0 (Kd.R (Kd.int .i64) 3 w' w.heap.size (fun _=>True) (.slice Ao8 t235.length co8) t235)∧Aside0 (w'.heap[gb234]?=some (.cells #[.int .i64 a0_0,(.slice A0_1 l0_1.length c0_1)] 30 (0,0)))∧Aside0 (Below w.heap.size w w'))
 case atStart=>exact ⟨(0),(by first|rfl|(simp;done)|(simp [*];done)),H',⟨Nat.le_refl _⟩,⟨by (with_reducible repeat (first|apply Kd.R_alloc|apply Kd.R_drewN|apply Kd.R_drew));exact HO237.out⟩,⟨by (with_reducible repeat (first|refine blk_drewN ?_ _|refine blk_drew ?_|refine blk_alloc ?_ _));exact BK234.out⟩,⟨by repeat (first|(with_reducible first|exact HB.out|apply below_alloc|apply pw_below_drewN|apply below_drew1|refine below_set ?_ GE234.out)|exact HB.out)⟩⟩
 case round =>
  clear H'
  try clear c1
  try clear p2
  try clear c3
  try clear hcz6_0
  try clear hcz6_1
  try clear hfz6_0
  try clear hfz6_1
  obtain ⟨x13_1,rfl,HA,HK1,HO_11,BK234,HB⟩:=hrel
  cases gk with
  | zero=>exact absurd HA.out (by simp [spec_l2dead.l0])
  | succ k1 =>
   have H:=HA.out
   clear HA
   simp only [spec_l2dead.l0] at H
   by_cases c9:x13_1<(t235.length:Int)
   ·rw [if_pos c9] at H
    have c9b0:decide (x13_1<(t235.length:Int))=true:=decide_eq_true c9
    clear c9
    by_cases c10:0≤x13_1
    ·rw [if_pos c10] at H
     have c10b0:decide (0≤x13_1)=true:=decide_eq_true c10
     clear c10
     by_cases c11:x13_1<(t235.length:Int)
     ·rw [if_pos c11] at H
      have c11b0:decide (x13_1<(t235.length:Int))=true:=decide_eq_true c11
      clear c11
      by_cases c12:0≤(rd t235 x13_1)
      ·rw [if_pos c12] at H
       have c12b0:decide (0≤(rd t235 x13_1))=true:=decide_eq_true c12
       clear c12
       by_cases c13:(rd t235 x13_1)<(l1.length:Int)
       ·rw [if_pos c13] at H
        have c13b0:decide ((rd t235 x13_1)<(l1.length:Int))=true:=decide_eq_true c13
        clear c13
        obtain ⟨bq14,hbq14⟩:∃ b_:Bool,b_=(rdOf false l1 (rd t235 x13_1)):=⟨_,rfl⟩
        replace H:(if bq14=true then (some true) else (spec_l2dead.l0 k1 l1 t235 (t235.length:Int) (wrap64 (x13_1+1))))=some r:=by rw [← hbq14] at H;exact H
        have Nbq14:=Aside0.mk hbq14
        clear hbq14
        by_cases c15:bq14=true
        ·subst c15
         have H1:(some true)=some r:=by rw [if_pos rfl] at H;exact H
         clear H
         have H:=H1
         clear H1
         obtain rfl:=Option.some.inj H
         have p238:0≤(x13_1:Int):=of_decide_eq_true (by first|(with_reducible assumption)|assumption)
         have q238:x13_1<(t235.length:Int):=of_decide_eq_true (by first|(with_reducible assumption)|assumption)
         obtain ⟨ad238,e238,hx238_0⟩:=Kd.at_int (Kd.R_reads' HO_11.out).2.2 x13_1 p238 q238
         cases e238
         replace p238:=eq_true p238
         replace q238:=eq_true q238
         have p239:0≤((rd t235 x13_1):Int):=of_decide_eq_true (by first|(with_reducible assumption)|assumption)
         have q239:(rd t235 x13_1)<(l1.length:Int):=of_decide_eq_true (by first|(with_reducible assumption)|assumption)
         obtain ⟨ad239,e239,hx239_0⟩:=Kd.at_bool HR1.out (rd t235 x13_1) p239 q239
         (try rw [← Nbq14.out] at hx239_0)
         cases e239
         replace hx239_0:=(HB.out.cell (World.block_lt_of_cell? w _ hx239_0)).trans hx239_0
         replace p239:=eq_true p239
         replace q239:=eq_true q239
         go_wp2
         go_ret
         exact ⟨by first|rfl|(simp [errW_none,errW_some] <;> rfl)|(simp [*,errW_none,errW_some] <;> rfl),by repeat (first|(with_reducible first|exact HB.out|apply below_alloc|apply pw_below_drewN|apply below_drew1|refine below_set ?_ GE234.out)|exact HB.out)⟩
        replace c15:=Bool.eq_false_iff.mpr c15
        subst c15
        have H1:(spec_l2dead.l0 k1 l1 t235 (t235.length:Int) (wrap64 (x13_1+1)))=some r:=by rw [if_neg (show ¬ (false=true) by decide)] at H;exact H
        clear H
        have H:=H1
        clear H1
        have H':=Aside0.mk H
        clear H
        have p238:0≤(x13_1:Int):=of_decide_eq_true (by first|(with_reducible assumption)|assumption)
        have q238:x13_1<(t235.length:Int):=of_decide_eq_true (by first|(with_reducible assumption)|assumption)
        obtain ⟨ad238,e238,hx238_0⟩:=Kd.at_int (Kd.R_reads' HO_11.out).2.2 x13_1 p238 q238
        cases e238
        replace p238:=eq_true p238
        replace q238:=eq_true q238
        have p239:0≤((rd t235 x13_1):Int):=of_decide_eq_true (by first|(with_reducible assumption)|assumption)
        have q239:(rd t235 x13_1)<(l1.length:Int):=of_decide_eq_true (by first|(with_reducible assumption)|assumption)
        obtain ⟨ad239,e239,hx239_0⟩:=Kd.at_bool HR1.out (rd t235 x13_1) p239 q239
        (try rw [← Nbq14.out] at hx239_0)
        cases e239
        replace hx239_0:=(HB.out.cell (World.block_lt_of_cell? w _ hx239_0)).trans hx239_0
        replace p239:=eq_true p239
        replace q239:=eq_true q239
        go_wp2
        go_roundg k1
        case measure=>have:=HK1.out;omega
        case rel=>exact ⟨(wrap64 (x13_1+1)),(by first|rfl|(simp;done)|(simp [*];done)),H',⟨by have:=HK1.out;omega⟩,⟨by (with_reducible repeat (first|apply Kd.R_alloc|apply Kd.R_drewN|apply Kd.R_drew));exact HO_11.out⟩,⟨by (with_reducible repeat (first|refine blk_drewN ?_ _|refine blk_drew ?_|refine blk_alloc ?_ _));exact BK234.out⟩,⟨by repeat (first|(with_reducible first|exact HB.out|apply below_alloc|apply pw_below_drewN|apply below_drew1|refine below_set ?_ GE234.out)|exact HB.out)⟩⟩
       rw [if_neg c13] at H
       exact absurd H (by simp)
      rw [if_neg c12] at H
      exact absurd H (by simp)
     rw [if_neg c11] at H
     exact absurd H (by simp)
    rw [if_neg c10] at H
    exact absurd H (by simp)
   rw [if_neg c9] at H
   have c9b0:decide (x13_1<(t235.length:Int))=false:=decide_eq_false c9
   clear c9
   obtain rfl:=Option.some.inj H
   go_wp2
   go_ret
   exact ⟨by first|rfl|(simp [errW_none,errW_some] <;> rfl)|(simp [*,errW_none,errW_some] <;> rfl),by repeat (first|(with_reducible first|exact HB.out|apply below_alloc|apply pw_below_drewN|apply below_drew1|refine below_set ?_ GE234.out)|exact HB.out)⟩
end Go.Proofs.Ytpdnabhpkdchjaa.P
namespace Go.Proofs.Ytpdnabhpkdchjaa.P
open Go.RowKit Go.Proofs.YtpdnabhpkdchjaaW.PrintWords Go.Proofs.YtpdnabhpkdchjaaW.PrintLast Go.Proofs.YtpdnabhpkdchjaaW.PrintMore
attribute [local go_sem] max2_int min2_int max_two min_two max_three min_three max_four min_four
set_option linter.unusedVariables false
set_option linter.unusedSimpArgs false
def spec_l2told.j0:Nat→Bool→Int→Int→Bool→Bool→Int→Option (Int)
 | 0,_,_,_,_,_,_=>none
 | k+1,x24,x242000,x242001,x242002,x242003,x242004=>if x24=true then (some 1) else (if x242003=true then (some 2) else (some 0))
def spec_l2told.f (k:Nat) (a0_0:Int) (l0_1:List (S88)) (l1:List Bool) (a2:Int) (a3_0:Int) (a3_1:Int) (a3_2:Bool) (a3_3:Bool) (a3_4:Int):Option (Int):=(spec_l2dead.f k a0_0 l0_1 l1 a2).bind fun t242=>(if t242=true then (some 3) else (if a3_2=true then (spec_l2told.j0 k true a3_0 a3_1 a3_2 a3_3 a3_4) else (if a3_1=0 then (spec_l2told.j0 k false a3_0 a3_1 a3_2 a3_3 a3_4) else (spec_l2told.j0 k (!a3_3) a3_0 a3_1 a3_2 a3_3 a3_4))))
set_option maxHeartbeats 8000000 in
set_option maxRecDepth 100000 in
theorem spec_l2told.calls (k:Nat) (a0_0:Int) (A0_1:Option Addr) (c0_1:Nat) (l0_1:List (S88)) (A1:Option Addr) (c1:Nat) (l1:List Bool) (a2:Int) (a3_0:Int) (a3_1:Int) (a3_2:Bool) (a3_3:Bool) (a3_4:Int) (r:Int) (w:World) (hr0_1:Kd.C k88 w A0_1 l0_1.length l0_1) (hc0_1:l0_1.length≤c0_1) (hr1:Kd.C Kd.bool w A1 l1.length l1) (hc1:l1.length≤c1) (h:spec_l2told.f k a0_0 l0_1 l1 a2 a3_0 a3_1 a3_2 a3_3 a3_4=some r) :
  Calls Try.prog 113 #[.agg #[.int .i64 a0_0,.slice A0_1 l0_1.length c0_1],.slice A1 l1.length c1,.int .i64 a2,.agg #[.int .i64 a3_0,.int .i64 a3_1,.bool a3_2,.bool a3_3,.int .i64 a3_4]] w fun e w'=>e=.returned (.int .i64 r)∧Below w.heap.size w w':=by
 have hu30:=Try.underlying30
 have hu50:=Try.underlying50
 have HR0_1:=Aside0.mk hr0_1
 have HC0_1:=Aside0.mk hc0_1
 clear hr0_1 hc0_1
 have HR1:=Aside0.mk hr1
 have HC1:=Aside0.mk hc1
 clear hr1 hc1
 have HB:=Aside0.mk (Below.refl w.heap.size w)
 have H:((spec_l2dead.f k a0_0 l0_1 l1 a2).bind fun t242=>(if t242=true then (some 3) else (if a3_2=true then (spec_l2told.j0 k true a3_0 a3_1 a3_2 a3_3 a3_4) else (if a3_1=0 then (spec_l2told.j0 k false a3_0 a3_1 a3_2 a3_3 a3_4) else (spec_l2told.j0 k (!a3_3) a3_0 a3_1 a3_2 a3_3 a3_4)))))=some r:=h
 clear h
 replace H:=Option.bind_eq_some_iff.mp H
 obtain ⟨t242,A50,H⟩:=H
 replace H:(if t242=true then (some 3) else (if a3_2=true then (spec_l2told.j0 k true a3_0 a3_1 a3_2 a3_3 a3_4) else (if a3_1=0 then (spec_l2told.j0 k false a3_0 a3_1 a3_2 a3_3 a3_4) else (spec_l2told.j0 k (!a3_3) a3_0 a3_1 a3_2 a3_3 a3_4))))=some r:=H
 have A5:=Aside0.mk A50
 clear A50
 by_cases c6:t242=true
 ·subst c6
  have H1:(some 3)=some r:=by rw [if_pos rfl] at H;exact H
  clear H
  have H:=H1
  clear H1
  obtain rfl:=Option.some.inj H
  go_enter Try.func113,Try.ntmps113
  go_wp2_with (first|((with_reducible refine gate_dst (N:=4) rfl ?_);refine box_event ?hg (N:=4) ?hd (cs:=#[.int .i64 a0_0,.slice A0_1 l0_1.length c0_1]) (t:=30) ?hr ?_;(case hd=>rfl);(case hg=>rfl);(case hr=>first|(go_simp;done)|(go_simp;rfl));intro gb240 hg w7 hbox hb;have n0_:=Aside0.mk (below_step (by exact HB.out) hb);have n1_:=Aside0.mk (hbox);have n2_:=Aside0.mk ((by rw [hg];exact (below_size (by exact HB.out)):w.heap.size≤gb240));have n3_:=Aside0.mk ((by rw [hg];exact (below_size (by exact HB.out)):w.heap.size≤gb240));clear HB;have HB:=n0_;have BK240:=n1_;have GW240:=n2_;have GE240:=n3_;clear n0_ n1_ n2_ n3_;clear hb hbox hg)|((with_reducible refine gate_dst (N:=7) rfl ?_);refine box_event ?hg (N:=7) ?hd (cs:=#[.int .i64 a3_0,.int .i64 a3_1,.bool a3_2,.bool a3_3,.int .i64 a3_4]) (t:=50) ?hr ?_;(case hd=>rfl);(case hg=>rfl);(case hr=>first|(go_simp;done)|(go_simp;rfl));intro gb241 hg w8 hbox hb;have n0_:=Aside0.mk (blk_below (g:=gb240) (o:=.cells #[.int .i64 a0_0,.slice A0_1 l0_1.length c0_1] 30 (0,0)) (by exact BK240.out) hb);have n1_:=Aside0.mk (below_step (by exact HB.out) hb);have n2_:=Aside0.mk (hbox);have n3_:=Aside0.mk ((by rw [hg];exact (below_size (by exact HB.out)):w.heap.size≤gb241));have n4_:=Aside0.mk ((by rw [hg];exact (below_size (by exact HB.out)):w.heap.size≤gb241));have n5_:=Aside0.mk ((by rw [hg];exact Nat.ne_of_lt (blk_lt (g:=gb240) (o:=.cells #[.int .i64 a0_0,.slice A0_1 l0_1.length c0_1] 30 (0,0)) (by exact BK240.out)):gb240 ≠ gb241));have n6_:=Aside0.mk ((by rw [hg];exact Nat.ne_of_gt (blk_lt (g:=gb240) (o:=.cells #[.int .i64 a0_0,.slice A0_1 l0_1.length c0_1] 30 (0,0)) (by exact BK240.out)):gb241 ≠ gb240));clear BK240;clear HB;have BK240:=n0_;have HB:=n1_;have BK241:=n2_;have GW241:=n3_;have GE241:=n4_;have NB240_241:=n5_;have NB241_240:=n6_;clear n0_ n1_ n2_ n3_ n4_ n5_ n6_;clear hb hbox hg;have hnb9:=NB240_241.out;have hnc9:=NB241_240.out;have hcz10_0:w8.cell? ⟨gb240,0,none⟩=some (.int .i64 a0_0):=(blk_cell BK240.out 0).trans rfl;have hcz10_1:w8.cell? ⟨gb240,1,none⟩=some (.slice A0_1 l0_1.length c0_1):=(blk_cell BK240.out 1).trans rfl;have hfz10_0:=blk_frozen BK240.out 0;have hfz10_1:=blk_frozen BK240.out 1)|((with_reducible refine gate_callee (f:=114) rfl ?_);refine goesL_ (some 12) rfl rfl Try.func114 (by kernel_rfl) rfl #[.agg #[.int .i64 a0_0,.slice A0_1 l0_1.length c0_1],.slice A1 l1.length c1,.int .i64 a2] rfl (by (try simp only [List.map_toArray,List.map_cons,List.map_nil]);first|done|rfl|(simp only [List.length_drop,List.length_take];rfl)) ?_;(with_reducible refine (spec_l2dead.calls k a0_0 _ _ l0_1 _ _ l1 a2 true _ ?side1 ?side2 ?side3 ?side4 A5.out).mono ?_);(case side1=>repeat (first|exact (Kd.C_below HR0_1.out HB.out)|(with_reducible refine Kd.C_alloc ?_ _)|(with_reducible refine Kd.C_drewN ?_ _)|(with_reducible refine Kd.C_drew ?_)));(case side2=>exact HC0_1.out);(case side3=>repeat (first|exact (Kd.C_below HR1.out HB.out)|(with_reducible refine Kd.C_alloc ?_ _)|(with_reducible refine Kd.C_drewN ?_ _)|(with_reducible refine Kd.C_drew ?_)));(case side4=>exact HC1.out);rintro e w11 ⟨rfl,hb⟩;refine ⟨_,rfl,?_⟩;have n0_:=Aside0.mk (blk_below (g:=gb240) (o:=.cells #[.int .i64 a0_0,.slice A0_1 l0_1.length c0_1] 30 (0,0)) (by exact BK240.out) hb);have n1_:=Aside0.mk (blk_below (g:=gb241) (o:=.cells #[.int .i64 a3_0,.int .i64 a3_1,.bool a3_2,.bool a3_3,.int .i64 a3_4] 50 (0,0)) (by exact BK241.out) hb);have n2_:=Aside0.mk (below_step (by exact HB.out) hb);clear BK240;clear BK241;clear HB;have BK240:=n0_;have BK241:=n1_;have HB:=n2_;clear n0_ n1_ n2_;(try clear hb);(try clear hb2);(try clear hk);(try clear hi)))
  go_ret
  exact ⟨by first|rfl|(simp [errW_none,errW_some] <;> rfl)|(simp [*,errW_none,errW_some] <;> rfl),by exact HB.out⟩
 replace c6:=Bool.eq_false_iff.mpr c6
 subst c6
 have H1:(if a3_2=true then (spec_l2told.j0 k true a3_0 a3_1 a3_2 a3_3 a3_4) else (if a3_1=0 then (spec_l2told.j0 k false a3_0 a3_1 a3_2 a3_3 a3_4) else (spec_l2told.j0 k (!a3_3) a3_0 a3_1 a3_2 a3_3 a3_4)))=some r:=by rw [if_neg (show ¬ (false=true) by decide)] at H;exact H
 clear H
 have H:=H1
 clear H1
 have HC12:=Aside0.mk H
 clear H
 go_enter Try.func113,Try.ntmps113
 go_upto_region 3 with (first|((with_reducible refine gate_dst (N:=4) rfl ?_);refine box_event ?hg (N:=4) ?hd (cs:=#[.int .i64 a0_0,.slice A0_1 l0_1.length c0_1]) (t:=30) ?hr ?_;(case hd=>rfl);(case hg=>rfl);(case hr=>first|(go_simp;done)|(go_simp;rfl));intro gb240 hg w13 hbox hb;have n0_:=Aside0.mk (below_step (by exact HB.out) hb);have n1_:=Aside0.mk (hbox);have n2_:=Aside0.mk ((by rw [hg];exact (below_size (by exact HB.out)):w.heap.size≤gb240));have n3_:=Aside0.mk ((by rw [hg];exact (below_size (by exact HB.out)):w.heap.size≤gb240));clear HB;have HB:=n0_;have BK240:=n1_;have GW240:=n2_;have GE240:=n3_;clear n0_ n1_ n2_ n3_;clear hb hbox hg)|((with_reducible refine gate_dst (N:=7) rfl ?_);refine box_event ?hg (N:=7) ?hd (cs:=#[.int .i64 a3_0,.int .i64 a3_1,.bool a3_2,.bool a3_3,.int .i64 a3_4]) (t:=50) ?hr ?_;(case hd=>rfl);(case hg=>rfl);(case hr=>first|(go_simp;done)|(go_simp;rfl));intro gb241 hg w14 hbox hb;have n0_:=Aside0.mk (blk_below (g:=gb240) (o:=.cells #[.int .i64 a0_0,.slice A0_1 l0_1.length c0_1] 30 (0,0)) (by exact BK240.out) hb);have n1_:=Aside0.mk (below_step (by exact HB.out) hb);have n2_:=Aside0.mk (hbox);have n3_:=Aside0.mk ((by rw [hg];exact (below_size (by exact HB.out)):w.heap.size≤gb241));have n4_:=Aside0.mk ((by rw [hg];exact (below_size (by exact HB.out)):w.heap.size≤gb241));have n5_:=Aside0.mk ((by rw [hg];exact Nat.ne_of_lt (blk_lt (g:=gb240) (o:=.cells #[.int .i64 a0_0,.slice A0_1 l0_1.length c0_1] 30 (0,0)) (by exact BK240.out)):gb240 ≠ gb241));have n6_:=Aside0.mk ((by rw [hg];exact Nat.ne_of_gt (blk_lt (g:=gb240) (o:=.cells #[.int .i64 a0_0,.slice A0_1 l0_1.length c0_1] 30 (0,0)) (by exact BK240.out)):gb241 ≠ gb240));clear BK240;clear HB;have BK240:=n0_;have HB:=n1_;have BK241:=n2_;have GW241:=n3_;have GE241:=n4_;have NB240_241:=n5_;have NB241_240:=n6_;clear n0_ n1_ n2_ n3_ n4_ n5_ n6_;clear hb hbox hg;have hnb15:=NB240_241.out;have hnc15:=NB241_240.out;have hcz16_0:w14.cell? ⟨gb240,0,none⟩=some (.int .i64 a0_0):=(blk_cell BK240.out 0).trans rfl;have hcz16_1:w14.cell? ⟨gb240,1,none⟩=some (.slice A0_1 l0_1.length c0_1):=(blk_cell BK240.out 1).trans rfl;have hfz16_0:=blk_frozen BK240.out 0;have hfz16_1:=blk_frozen BK240.out 1)|((with_reducible refine gate_callee (f:=114) rfl ?_);refine goesL_ (some 12) rfl rfl Try.func114 (by kernel_rfl) rfl #[.agg #[.int .i64 a0_0,.slice A0_1 l0_1.length c0_1],.slice A1 l1.length c1,.int .i64 a2] rfl (by (try simp only [List.map_toArray,List.map_cons,List.map_nil]);first|done|rfl|(simp only [List.length_drop,List.length_take];rfl)) ?_;(with_reducible refine (spec_l2dead.calls k a0_0 _ _ l0_1 _ _ l1 a2 false _ ?side1 ?side2 ?side3 ?side4 A5.out).mono ?_);(case side1=>repeat (first|exact (Kd.C_below HR0_1.out HB.out)|(with_reducible refine Kd.C_alloc ?_ _)|(with_reducible refine Kd.C_drewN ?_ _)|(with_reducible refine Kd.C_drew ?_)));(case side2=>exact HC0_1.out);(case side3=>repeat (first|exact (Kd.C_below HR1.out HB.out)|(with_reducible refine Kd.C_alloc ?_ _)|(with_reducible refine Kd.C_drewN ?_ _)|(with_reducible refine Kd.C_drew ?_)));(case side4=>exact HC1.out);rintro e w17 ⟨rfl,hb⟩;refine ⟨_,rfl,?_⟩;have n0_:=Aside0.mk (blk_below (g:=gb240) (o:=.cells #[.int .i64 a0_0,.slice A0_1 l0_1.length c0_1] 30 (0,0)) (by exact BK240.out) hb);have n1_:=Aside0.mk (blk_below (g:=gb241) (o:=.cells #[.int .i64 a3_0,.int .i64 a3_1,.bool a3_2,.bool a3_3,.int .i64 a3_4] 50 (0,0)) (by exact BK241.out) hb);have n2_:=Aside0.mk (below_step (by exact HB.out) hb);clear BK240;clear BK241;clear HB;have BK240:=n0_;have BK241:=n1_;have HB:=n2_;clear n0_ n1_ n2_;(try clear hb);(try clear hb2);(try clear hk);(try clear hi)))
 (try simp only [Act.put,List.setIfInBounds_toArray,List.set_cons_zero,List.set_cons_succ])
 go_cut [24] (fun v24 wc=>∃ (kq:Nat) (x24_11:Bool),v24=.bool x24_11∧Aside0 (spec_l2told.j0 kq x24_11 a3_0 a3_1 a3_2 a3_3 a3_4=some r)∧Aside0 (kq≤k)∧Aside0 (wc.heap[gb240]?=some (.cells #[.int .i64 a0_0,(.slice A0_1 l0_1.length c0_1)] 30 (0,0)))∧Aside0 (wc.heap[gb241]?=some (.cells #[.int .i64 a3_0,.int .i64 a3_1,.bool a3_2,.bool a3_3,.int .i64 a3_4] 50 (0,0)))∧Aside0 (Below w.heap.size w wc))
 case first =>
  have H:=HC12.out
  clear HC12
  by_cases c18:a3_2=true
  ·subst c18
   have H1:(spec_l2told.j0 k true a3_0 a3_1 true a3_3 a3_4)=some r:=by rw [if_pos rfl] at H;exact H
   clear H
   have H:=H1
   clear H1
   have H':=Aside0.mk H
   clear H
   have hnb19:=NB241_240.out
   have hnc19:=NB240_241.out
   have hcz20_0:w17.cell? ⟨gb241,0,none⟩=some (.int .i64 a3_0):=(blk_cell BK241.out 0).trans rfl
   have hcz20_1:w17.cell? ⟨gb241,1,none⟩=some (.int .i64 a3_1):=(blk_cell BK241.out 1).trans rfl
   have hcz20_2:w17.cell? ⟨gb241,2,none⟩=some (.bool true):=(blk_cell BK241.out 2).trans rfl
   have hcz20_3:w17.cell? ⟨gb241,3,none⟩=some (.bool a3_3):=(blk_cell BK241.out 3).trans rfl
   have hcz20_4:w17.cell? ⟨gb241,4,none⟩=some (.int .i64 a3_4):=(blk_cell BK241.out 4).trans rfl
   have hfz20_0:=blk_frozen BK241.out 0
   have hfz20_1:=blk_frozen BK241.out 1
   have hfz20_2:=blk_frozen BK241.out 2
   have hfz20_3:=blk_frozen BK241.out 3
   have hfz20_4:=blk_frozen BK241.out 4
   go_wp2
   go_meet
   case rel=>exact ⟨_,(true),(by first|rfl|(simp;done)|(simp [*];done)),H',⟨by first|omega|exact Nat.le_refl _⟩,⟨by exact BK240.out⟩,⟨by exact BK241.out⟩,⟨by exact HB.out⟩⟩
  replace c18:=Bool.eq_false_iff.mpr c18
  subst c18
  have H1:(if a3_1=0 then (spec_l2told.j0 k false a3_0 a3_1 false a3_3 a3_4) else (spec_l2told.j0 k (!a3_3) a3_0 a3_1 false a3_3 a3_4))=some r:=by rw [if_neg (show ¬ (false=true) by decide)] at H;exact H
  clear H
  have H:=H1
  clear H1
  by_cases c21:a3_1=0
  ·rw [if_pos c21] at H
   have c21b0:(a3_1==0)=true:=beq_iff_eq.mpr c21
   have c21b1:(a3_1 != 0)=false:=bne_eq_false_iff_eq.mpr c21
   clear c21
   (first|rw [c21b0]|(simp only [i64_w,i32_w];rw [c21b0])|skip)
   have H':=Aside0.mk H
   clear H
   have hnb22:=NB241_240.out
   have hnc22:=NB240_241.out
   have hcz23_0:w17.cell? ⟨gb241,0,none⟩=some (.int .i64 a3_0):=(blk_cell BK241.out 0).trans rfl
   have hcz23_1:w17.cell? ⟨gb241,1,none⟩=some (.int .i64 a3_1):=(blk_cell BK241.out 1).trans rfl
   have hcz23_2:w17.cell? ⟨gb241,2,none⟩=some (.bool false):=(blk_cell BK241.out 2).trans rfl
   have hcz23_3:w17.cell? ⟨gb241,3,none⟩=some (.bool a3_3):=(blk_cell BK241.out 3).trans rfl
   have hcz23_4:w17.cell? ⟨gb241,4,none⟩=some (.int .i64 a3_4):=(blk_cell BK241.out 4).trans rfl
   have hfz23_0:=blk_frozen BK241.out 0
   have hfz23_1:=blk_frozen BK241.out 1
   have hfz23_2:=blk_frozen BK241.out 2
   have hfz23_3:=blk_frozen BK241.out 3
   have hfz23_4:=blk_frozen BK241.out 4
   go_wp2
   go_meet
   case rel=>exact ⟨_,(false),(by first|rfl|(simp;done)|(simp [*];done)),H',⟨by first|omega|exact Nat.le_refl _⟩,⟨by exact BK240.out⟩,⟨by exact BK241.out⟩,⟨by exact HB.out⟩⟩
  rw [if_neg c21] at H
  have c21b0:(a3_1==0)=false:=beq_eq_false_iff_ne.mpr c21
  have c21b1:(a3_1 != 0)=true:=bne_iff_ne.mpr c21
  (first|rw [c21b0]|(simp only [i64_w,i32_w];rw [c21b0])|skip)
  have H':=Aside0.mk H
  clear H
  have hnb24:=NB241_240.out
  have hnc24:=NB240_241.out
  have hcz25_0:w17.cell? ⟨gb241,0,none⟩=some (.int .i64 a3_0):=(blk_cell BK241.out 0).trans rfl
  have hcz25_1:w17.cell? ⟨gb241,1,none⟩=some (.int .i64 a3_1):=(blk_cell BK241.out 1).trans rfl
  have hcz25_2:w17.cell? ⟨gb241,2,none⟩=some (.bool false):=(blk_cell BK241.out 2).trans rfl
  have hcz25_3:w17.cell? ⟨gb241,3,none⟩=some (.bool a3_3):=(blk_cell BK241.out 3).trans rfl
  have hcz25_4:w17.cell? ⟨gb241,4,none⟩=some (.int .i64 a3_4):=(blk_cell BK241.out 4).trans rfl
  have hfz25_0:=blk_frozen BK241.out 0
  have hfz25_1:=blk_frozen BK241.out 1
  have hfz25_2:=blk_frozen BK241.out 2
  have hfz25_3:=blk_frozen BK241.out 3
  have hfz25_4:=blk_frozen BK241.out 4
  go_wp2
  go_meet
  case rel=>exact ⟨_,(!a3_3),(by first|rfl|(simp;done)|(simp [*];done)),H',⟨by first|omega|exact Nat.le_refl _⟩,⟨by exact BK240.out⟩,⟨by exact BK241.out⟩,⟨by exact HB.out⟩⟩
 case rest =>
  clear HC12
  try clear c1
  try clear c2
  try clear p2
  try clear c6
  try clear c9
  try clear c11
  try clear c15
  try clear c18
  try clear c19
  try clear c21
  try clear c21b0
  try clear c21b1
  try clear c22
  try clear c24
  try clear hcz10_0
  try clear hcz10_1
  try clear hcz16_0
  try clear hcz16_1
  try clear hcz20_0
  try clear hcz20_1
  try clear hcz20_2
  try clear hcz20_3
  try clear hcz20_4
  try clear hcz23_0
  try clear hcz23_1
  try clear hcz23_2
  try clear hcz23_3
  try clear hcz23_4
  try clear hcz25_0
  try clear hcz25_1
  try clear hcz25_2
  try clear hcz25_3
  try clear hcz25_4
  try clear hfz10_0
  try clear hfz10_1
  try clear hfz16_0
  try clear hfz16_1
  try clear hfz20_0
  try clear hfz20_1
  try clear hfz20_2
  try clear hfz20_3
  try clear hfz20_4
  try clear hfz23_0
  try clear hfz23_1
  try clear hfz23_2
  try clear hfz23_3
  try clear hfz23_4
  try clear hfz25_0
  try clear hfz25_1
  try clear hfz25_2
  try clear hfz25_3
  try clear hfz25_4
  obtain ⟨kq,x24_11,rfl,HA,HJ11,BK240,BK241,HB⟩:=hcut
  cases kq with
  | zero=>exact absurd HA.out (by simp [spec_l2told.j0])
  | succ kj11 =>
   have H:=HA.out
   clear HA
   simp only [spec_l2told.j0] at H
   by_cases c26:x24_11=true
   ·subst c26
    have H1:(some 1)=some r:=by rw [if_pos rfl] at H;exact H
    clear H
    have H:=H1
    clear H1
    obtain rfl:=Option.some.inj H
    go_wp2
    go_ret
    exact ⟨by first|rfl|(simp [errW_none,errW_some] <;> rfl)|(simp [*,errW_none,errW_some] <;> rfl),by exact HB.out⟩
   replace c26:=Bool.eq_false_iff.mpr c26
   subst c26
   have H1:(if a3_3=true then (some 2) else (some 0))=some r:=by rw [if_neg (show ¬ (false=true) by decide)] at H;exact H
   clear H
   have H:=H1
   clear H1
   by_cases c27:a3_3=true
   ·subst c27
    have H1:(some 2)=some r:=by rw [if_pos rfl] at H;exact H
    clear H
    have H:=H1
    clear H1
    obtain rfl:=Option.some.inj H
    have hnb28:=NB241_240.out
    have hnc28:=NB240_241.out
    have hcz29_0:wc.cell? ⟨gb241,0,none⟩=some (.int .i64 a3_0):=(blk_cell BK241.out 0).trans rfl
    have hcz29_1:wc.cell? ⟨gb241,1,none⟩=some (.int .i64 a3_1):=(blk_cell BK241.out 1).trans rfl
    have hcz29_2:wc.cell? ⟨gb241,2,none⟩=some (.bool a3_2):=(blk_cell BK241.out 2).trans rfl
    have hcz29_3:wc.cell? ⟨gb241,3,none⟩=some (.bool true):=(blk_cell BK241.out 3).trans rfl
    have hcz29_4:wc.cell? ⟨gb241,4,none⟩=some (.int .i64 a3_4):=(blk_cell BK241.out 4).trans rfl
    have hfz29_0:=blk_frozen BK241.out 0
    have hfz29_1:=blk_frozen BK241.out 1
    have hfz29_2:=blk_frozen BK241.out 2
    have hfz29_3:=blk_frozen BK241.out 3
    have hfz29_4:=blk_frozen BK241.out 4
    go_wp2
    go_ret
    exact ⟨by first|rfl|(simp [errW_none,errW_some] <;> rfl)|(simp [*,errW_none,errW_some] <;> rfl),by exact HB.out⟩
   replace c27:=Bool.eq_false_iff.mpr c27
   subst c27
   have H1:(some 0)=some r:=by rw [if_neg (show ¬ (false=true) by decide)] at H;exact H
   clear H
   have H:=H1
   clear H1
   obtain rfl:=Option.some.inj H
   have hnb30:=NB241_240.out
   have hnc30:=NB240_241.out
   have hcz31_0:wc.cell? ⟨gb241,0,none⟩=some (.int .i64 a3_0):=(blk_cell BK241.out 0).trans rfl
   have hcz31_1:wc.cell? ⟨gb241,1,none⟩=some (.int .i64 a3_1):=(blk_cell BK241.out 1).trans rfl
   have hcz31_2:wc.cell? ⟨gb241,2,none⟩=some (.bool a3_2):=(blk_cell BK241.out 2).trans rfl
   have hcz31_3:wc.cell? ⟨gb241,3,none⟩=some (.bool false):=(blk_cell BK241.out 3).trans rfl
   have hcz31_4:wc.cell? ⟨gb241,4,none⟩=some (.int .i64 a3_4):=(blk_cell BK241.out 4).trans rfl
   have hfz31_0:=blk_frozen BK241.out 0
   have hfz31_1:=blk_frozen BK241.out 1
   have hfz31_2:=blk_frozen BK241.out 2
   have hfz31_3:=blk_frozen BK241.out 3
   have hfz31_4:=blk_frozen BK241.out 4
   go_wp2
   go_ret
   exact ⟨by first|rfl|(simp [errW_none,errW_some] <;> rfl)|(simp [*,errW_none,errW_some] <;> rfl),by exact HB.out⟩
end Go.Proofs.Ytpdnabhpkdchjaa.P
namespace Go.Proofs.Ytpdnabhpkdchjaa.P
open Go.RowKit Go.Proofs.YtpdnabhpkdchjaaW.PrintWords Go.Proofs.YtpdnabhpkdchjaaW.PrintLast
set_option linter.unusedVariables false
set_option linter.unusedSimpArgs false
def deadFrom (l : List S88) (dead : List Bool) (s : Int) (d : Nat) (i : Nat) : Bool :=
  match d with
  | 0 => false
  | d + 1 => (rdOf false dead (i : Int) && hits s (rd_T88 l (i : Int))) || deadFrom l dead s d (i + 1)
def deadAt (l : List S88) (dead : List Bool) (s : Int) : Bool := deadFrom l dead s l.length 0
def toldC (l : List S88) (dead : List Bool) (s : Int) (x : S50) : Int :=
  if deadAt l dead s = true then 3 else if x.f2 = true ∨ (x.f1 ≠ 0 ∧ x.f3 = false) then 1 else if x.f3 = true then 2 else 0
theorem implDead_l0 (l : List S88) (dead : List Bool) (b : Bool) (secs : List S50) (s : Int) (hl : l.length ≤ 1048576) (hd : dead.length = l.length) (d : Nat) : ∀ (i : Nat), i + d = l.length →
    Ev (fun k => impl_dead.l0 k s l (l.length : Int) i b secs dead) (deadFrom l dead s d i) := by
  induction d with
  | zero => intro i hi; refine Ev.step1 fun k => ?_; simp only [impl_dead.l0]; rw [if_neg (by omega)]; rfl
  | succ d ih =>
    intro i hi
    have h1 := ih (i + 1) (by omega)
    simp only [deadFrom]
    cases hb : rdOf false dead (i : Int) with
    | false =>
      simp only [Bool.false_and, Bool.false_or]
      refine Ev.step (fun k => ?_) h1
      simp only [impl_dead.l0]
      rw [if_pos (by omega), if_pos (by omega), if_pos (by omega), if_pos (by omega), hb, wrap_succ (by omega)]
      rfl
    | true =>
      by_cases h2 : (rd_T88 l (i : Int)).f0 = s
      · simp only [hits, h2, decide_true, Bool.true_or, Bool.and_true]
        refine Ev.step1 fun k => ?_
        simp only [impl_dead.l0]
        rw [if_pos (by omega), if_pos (by omega), if_pos (by omega), if_pos (by omega), hb, if_pos rfl, if_pos h2]
      · by_cases h3 : (rd_T88 l (i : Int)).f1 = s
        · simp only [hits, h3, decide_true, Bool.or_true, Bool.true_or, Bool.and_true]
          refine Ev.step1 fun k => ?_
          simp only [impl_dead.l0]
          rw [if_pos (by omega), if_pos (by omega), if_pos (by omega), if_pos (by omega), hb, if_pos rfl, if_neg h2, if_pos h3]
        · simp only [hits, h2, h3, decide_false, Bool.or_self, Bool.and_false, Bool.false_or]
          refine Ev.step (fun k => ?_) h1
          simp only [impl_dead.l0]
          rw [if_pos (by omega), if_pos (by omega), if_pos (by omega), if_pos (by omega), hb, if_pos rfl, if_neg h2, if_neg h3, wrap_succ (by omega)]
theorem implDead_ev (n : Int) (l : List S88) (dead : List Bool) (b : Bool) (secs : List S50) (s : Int) (hl : l.length ≤ 1048576) (hd : dead.length = l.length) :
    Ev (fun k => impl_dead.f k n l b secs dead s) (deadAt l dead s) := by
  unfold impl_dead.f
  exact implDead_l0 l dead b secs s hl hd l.length 0 (by omega)
def anyDead (dead : List Bool) : List Int → Bool
  | [] => false
  | c :: r => rdOf false dead c || anyDead dead r
theorem anyDead_append (dead : List Bool) (a b : List Int) : anyDead dead (a ++ b) = (anyDead dead a || anyDead dead b) := by
  induction a with
  | nil => rfl
  | cons c r ih => simp [anyDead, ih, Bool.or_assoc]
theorem anyDead_hits (l : List S88) (dead : List Bool) (s : Int) (d : Nat) : ∀ i, i + d = l.length → (anyDead dead (hitsTo l s i) || deadFrom l dead s d i) = anyDead dead (hitsTo l s l.length) := by
  induction d with
  | zero => intro i hi; rw [show i = l.length by omega]; simp [deadFrom]
  | succ d ih =>
    intro i hi
    rw [← ih (i + 1) (by omega), hitsTo_succ]
    simp only [deadFrom]
    by_cases h : hits s (rd_T88 l (i : Int)) = true
    · rw [if_pos h, h, anyDead_append]
      simp [anyDead, Bool.or_assoc]
    · rw [if_neg h]
      have h' : hits s (rd_T88 l (i : Int)) = false := by simpa using h
      rw [h']; simp
theorem deadAt_any (l : List S88) (dead : List Bool) (s : Int) : deadAt l dead s = anyDead dead (hitsTo l s l.length) := by
  have := anyDead_hits l dead s l.length 0 (by omega)
  rw [← this]
  simp [deadAt, hitsTo, anyDead]
theorem hitsTo_mem (l : List S88) (s : Int) (i : Nat) : ∀ c ∈ hitsTo l s i, 0 ≤ c ∧ c < i := by
  intro c hc
  simp only [hitsTo, List.mem_map, List.mem_filter, List.mem_range] at hc
  obtain ⟨j, ⟨hj, _⟩, rfl⟩ := hc
  constructor
  · exact Int.natCast_nonneg _
  · exact Int.ofNat_lt.2 hj
theorem specDead_l0 (dead : List Bool) (r : List Int) (hr : ∀ c ∈ r, 0 ≤ c ∧ c < dead.length) (hl : r.length ≤ 1048576) (d : Nat) : ∀ (i : Nat), i + d = r.length →
    Ev (fun k => spec_l2dead.l0 k dead r (r.length : Int) i) (anyDead dead (r.drop i)) := by
  induction d with
  | zero => intro i hi; refine Ev.step1 fun k => ?_; simp only [spec_l2dead.l0]; rw [if_neg (by omega), List.drop_eq_nil_of_le (by omega)]; rfl
  | succ d ih =>
    intro i hi
    have hlt : i < r.length := by omega
    have h1 := ih (i + 1) (by omega)
    rw [List.drop_eq_getElem_cons hlt]
    have hrd : rd r (i : Int) = r[i] := by simp [rd, hlt]
    obtain ⟨p1, p2⟩ := hr r[i] (List.getElem_mem hlt)
    simp only [anyDead]
    cases hb : rdOf false dead r[i] with
    | false =>
      simp only [Bool.false_or]
      refine Ev.step (fun k => ?_) h1
      simp only [spec_l2dead.l0, hrd]
      rw [if_pos (by omega), if_pos (by omega), if_pos (by omega), if_pos p1, if_pos p2, hb, wrap_succ (by omega)]
      rfl
    | true =>
      simp only [Bool.true_or]
      refine Ev.step1 fun k => ?_
      simp only [spec_l2dead.l0, hrd]
      rw [if_pos (by omega), if_pos (by omega), if_pos (by omega), if_pos p1, if_pos p2, hb, if_pos rfl]
theorem specDead_ev (n : Int) (l : List S88) (dead : List Bool) (s : Int) (h0 : layoutOk n l = 0) (hs : 0 ≤ s ∧ s < n) (hd : dead.length = l.length) :
    Ev (fun k => spec_l2dead.f k n l dead s) (deadAt l dead s) := by
  unfold spec_l2dead.f
  have ha : around n l s = hitsTo l s l.length := by rw [around, if_pos ⟨h0, hs.1, hs.2⟩]
  refine Ev.bind (specAround_ev n l s) ?_
  rw [ha, deadAt_any]
  have hc := (lay_n h0).2.2
  have hlen := hitsTo_length l s l.length
  have := specDead_l0 dead (hitsTo l s l.length) (fun c hc => by have := hitsTo_mem l s l.length c hc; omega) (by omega) _ 0 (Nat.zero_add _)
  simpa using this
theorem told_tail (x : S50) (b : Bool) (hb : b = true ↔ (x.f2 = true ∨ (x.f1 ≠ 0 ∧ x.f3 = false))) :
    (if b = true then some (1 : Int) else if x.f3 = true then some 2 else some 0) = some (if x.f2 = true ∨ (x.f1 ≠ 0 ∧ x.f3 = false) then 1 else if x.f3 = true then 2 else 0) := by
  by_cases h : b = true
  · rw [if_pos h, if_pos (hb.1 h)]
  · rw [if_neg h, if_neg (fun k => h (hb.2 k))]
    split <;> rfl
theorem implTold_ev (n : Int) (l : List S88) (dead : List Bool) (b : Bool) (secs : List S50) (s : Int) (hl : l.length ≤ 1048576) (hd : dead.length = l.length) (h0 : 0 ≤ s) (h1 : s < secs.length) :
    Ev (fun k => impl_told.f k n l b secs dead s) (toldC l dead s (rd_T50 secs s)) := by
  unfold impl_told.f
  refine Ev.ite_pos h0 (Ev.ite_pos h1 (Ev.bind (implDead_ev n l dead b secs s hl hd) ?_))
  unfold toldC
  by_cases hdd : deadAt l dead s = true
  · rw [if_pos hdd]; exact Ev.ite_pos hdd (Ev.now _)
  · rw [if_neg hdd]
    refine Ev.ite_neg hdd ?_
    by_cases h2 : (rd_T50 secs s).f2 = true
    · refine Ev.ite_pos h2 (Ev.step1 fun k => ?_)
      simp only [impl_told.j0]
      exact told_tail _ true (by simp [h2])
    · refine Ev.ite_neg h2 ?_
      by_cases h3 : (rd_T50 secs s).f1 = 0
      · refine Ev.ite_pos h3 (Ev.step1 fun k => ?_)
        simp only [impl_told.j0]
        exact told_tail _ false (by simp [h2, h3])
      · refine Ev.ite_neg h3 (Ev.step1 fun k => ?_)
        simp only [impl_told.j0]
        exact told_tail _ _ (by simp [h2, h3])
theorem specTold_ev (n : Int) (l : List S88) (dead : List Bool) (s : Int) (x : S50) (h0 : layoutOk n l = 0) (hs : 0 ≤ s ∧ s < n) (hd : dead.length = l.length) :
    Ev (fun k => spec_l2told.f k n l dead s x.f0 x.f1 x.f2 x.f3 x.f4) (toldC l dead s x) := by
  unfold spec_l2told.f
  refine Ev.bind (specDead_ev n l dead s h0 hs hd) ?_
  unfold toldC
  by_cases hdd : deadAt l dead s = true
  · rw [if_pos hdd]; exact Ev.ite_pos hdd (Ev.now _)
  · rw [if_neg hdd]
    refine Ev.ite_neg hdd ?_
    by_cases h2 : x.f2 = true
    · refine Ev.ite_pos h2 (Ev.step1 fun k => ?_)
      simp only [spec_l2told.j0]
      exact told_tail x true (by simp [h2])
    · refine Ev.ite_neg h2 ?_
      by_cases h3 : x.f1 = 0
      · refine Ev.ite_pos h3 (Ev.step1 fun k => ?_)
        simp only [spec_l2told.j0]
        exact told_tail x false (by simp [h2, h3])
      · refine Ev.ite_neg h3 (Ev.step1 fun k => ?_)
        simp only [spec_l2told.j0]
        exact told_tail x _ (by simp [h2, h3])
end Go.Proofs.Ytpdnabhpkdchjaa.P
namespace Go.Proofs.Ytpdnabhpkdchjaa.P
open Go.RowKit Go.Proofs.YtpdnabhpkdchjaaW.PrintWords Go.Proofs.YtpdnabhpkdchjaaW.PrintLast
set_option linter.unusedVariables false
set_option linter.unusedSimpArgs false
def secRange (x : S50) : Bool := decide (-1000000 ≤ x.f1) && decide (x.f1 ≤ 1000000) && decide (-1 ≤ x.f4) && decide (x.f4 ≤ 1)
def secRest (dd : Bool) (x : S50) : Bool := !((decide (x.f1 < 0) || dd) && !x.f2) && !(x.f3 && decide (x.f1 = 0) && decide (x.f4 = -1) && !x.f2)
def secOk (l : List S88) (dead : List Bool) (s : Int) (x : S50) : Bool := secRange x && decide (x.f0 = toldC l dead s x) && secRest (deadAt l dead s) x
def secsFrom (l : List S88) (dead : List Bool) (secs : List S50) (d : Nat) (i : Nat) : Bool :=
  match d with
  | 0 => true
  | d + 1 => secOk l dead i (rd_T50 secs (i : Int)) && secsFrom l dead secs d (i + 1)
def stateOk (n : Int) (l : List S88) (ok : Bool) (secs : List S50) (dead : List Bool) : Bool :=
  decide (layoutOk n l = 0) && ok && decide ((secs.length : Int) = n) && decide (dead.length = l.length) && secsFrom l dead secs secs.length 0
end Go.Proofs.Ytpdnabhpkdchjaa.P
namespace Go.Proofs.Ytpdnabhpkdchjaa.P
open Go.RowKit Go.Proofs.YtpdnabhpkdchjaaW.PrintWords Go.Proofs.YtpdnabhpkdchjaaW.PrintLast Go.Proofs.YtpdnabhpkdchjaaW.PrintMore
set_option linter.unusedVariables false
def addS (ss : List S50) (s b : Int) : List S50 := if s < 0 then ss else ss.set s.toNat (countS (rd_T50 ss s) b)
def loseAt (ss : List S50) (s : Int) : List S50 := if s < 0 then ss else ss.set s.toNat (loseS (rd_T50 ss s))
def tellS (l : List S88) (dd : List Bool) (i : Nat) (x : S50) : S50 := ⟨toldC l dd (i : Int) x, x.f1, x.f2, x.f3, x.f4⟩
def retoldTo (l : List S88) (dd : List Bool) (ss : List S50) (k : Nat) : List S50 := ss.mapIdx fun i x => if i < k then tellS l dd i x else x
def retold (l : List S88) (dd : List Bool) (ss : List S50) : List S50 := retoldTo l dd ss ss.length
def midSecs (l : List S88) (ss : List S50) (op of dir : Int) : List S50 :=
  let c := rd_T88 l of
  let f := if dir = -1 then c.f1 else c.f0
  let t := if dir = -1 then c.f0 else c.f1
  if op = 1 then addS (addS ss f (-1)) t 1 else if op = 2 then addS ss t 1 else if op = 3 then loseAt (loseAt ss c.f0) c.f1 else if op = 5 then ss.set of.toNat ⟨0, 0, false, true, 0⟩ else ss
def midDead (dd : List Bool) (op of : Int) : List Bool := if op = 3 then dd.set of.toNat true else if op = 4 then dd.set of.toNat false else dd
def doCode (l : List S88) (ss : List S50) (dd : List Bool) (op of : Int) : Int :=
  if op = 1 ∨ op = 2 then (if rdOf false dd of = true then 2 else 0) else if op = 5 then (if deadAt l dd of = true then 3 else if (rd_T50 ss of).f4 = 1 then 4 else 0) else 0
def doSecs (l : List S88) (ss : List S50) (dd : List Bool) (op of dir : Int) : List S50 := if doCode l ss dd op of = 0 then retold l (midDead dd op of) (midSecs l ss op of dir) else ss
def doDead (l : List S88) (ss : List S50) (dd : List Bool) (op of : Int) : List Bool := if doCode l ss dd op of = 0 then midDead dd op of else dd
theorem addS_length (ss : List S50) (s b : Int) : (addS ss s b).length = ss.length := by unfold addS; split <;> simp
theorem loseAt_length (ss : List S50) (s : Int) : (loseAt ss s).length = ss.length := by unfold loseAt; split <;> simp
theorem retoldTo_length (l : List S88) (dd : List Bool) (ss : List S50) (k : Nat) : (retoldTo l dd ss k).length = ss.length := by simp [retoldTo]
theorem retold_length (l : List S88) (dd : List Bool) (ss : List S50) : (retold l dd ss).length = ss.length := retoldTo_length _ _ _ _
theorem midSecs_length (l : List S88) (ss : List S50) (op of dir : Int) : (midSecs l ss op of dir).length = ss.length := by
  unfold midSecs
  simp only []
  split
  · rw [addS_length, addS_length]
  · split
    · rw [addS_length]
    · split
      · rw [loseAt_length, loseAt_length]
      · split <;> simp
theorem midDead_length (dd : List Bool) (op of : Int) : (midDead dd op of).length = dd.length := by unfold midDead; split <;> (try split) <;> simp
theorem doSecs_length (l : List S88) (ss : List S50) (dd : List Bool) (op of dir : Int) : (doSecs l ss dd op of dir).length = ss.length := by
  unfold doSecs; split
  · rw [retold_length, midSecs_length]
  · rfl
theorem doDead_length (l : List S88) (ss : List S50) (dd : List Bool) (op of : Int) : (doDead l ss dd op of).length = dd.length := by
  unfold doDead; split
  · exact midDead_length _ _ _
  · rfl
theorem retoldTo_zero (l : List S88) (dd : List Bool) (ss : List S50) : retoldTo l dd ss 0 = ss := by
  apply List.ext_getElem <;> simp [retoldTo]
theorem retoldTo_at (l : List S88) (dd : List Bool) (ss : List S50) (k : Nat) (hk : k < ss.length) : rd_T50 (retoldTo l dd ss k) (k : Int) = rd_T50 ss (k : Int) := by
  simp [rd_T50, retoldTo, hk]
theorem retoldTo_succ (l : List S88) (dd : List Bool) (ss : List S50) (k : Nat) (hk : k < ss.length) :
    (retoldTo l dd ss k).set k (tellS l dd k (rd_T50 ss (k : Int))) = retoldTo l dd ss (k + 1) := by
  apply List.ext_getElem
  · simp [retoldTo]
  · intro i h1 h2
    have hi : i < ss.length := by simpa [retoldTo] using h2
    rw [List.getElem_set]
    by_cases e : k = i
    · subst e
      simp [retoldTo, rd_T50, hk]
    · rw [if_neg e]
      simp only [retoldTo, List.getElem_mapIdx]
      by_cases h3 : i < k
      · rw [if_pos h3, if_pos (by omega)]
      · rw [if_neg h3, if_neg (by omega)]
end Go.Proofs.Ytpdnabhpkdchjaa.P
namespace Go.Proofs.Ytpdnabhpkdchjaa.P
open Go.RowKit Go.Proofs.YtpdnabhpkdchjaaW.PrintWords Go.Proofs.YtpdnabhpkdchjaaW.PrintLast Go.Proofs.YtpdnabhpkdchjaaW.PrintMore
attribute [local go_sem] max2_int min2_int max_two min_two max_three min_three max_four min_four
set_option linter.unusedVariables false
set_option linter.unusedSimpArgs false
mutual
def spec_l2copy.l0:Nat→List (S50)→Int→Int→Bool→List (S50)→List Bool→Bool→List (S50)→Option (Bool × (List (S50)) × List Bool)
 | 0,_,_,_,_,_,_,_,_=>none
 | k+1,x12,x13,x14,x254000,x254001,x254002,x256000,x256001=>if x14<x13 then (if 0≤x14 then (if x14<(x12.length:Int) then (if x256001.length<4398046511104 then (spec_l2copy.l0 k x12 x13 (wrap64 (x14+1)) x254000 x254001 x254002 x256000 (x256001 ++ [(⟨(rd_T50 x12 x14).f0,(rd_T50 x12 x14).f1,(rd_T50 x12 x14).f2,(rd_T50 x12 x14).f3,(rd_T50 x12 x14).f4⟩:S50)])) else (none)) else (none)) else (none)) else (spec_l2copy.l1 k x254002 (x254002.length:Int) 0 x256000 x256001 ([]:List Bool))
def spec_l2copy.l1:Nat→List Bool→Int→Int→Bool→List (S50)→List Bool→Option (Bool × (List (S50)) × List Bool)
 | 0,_,_,_,_,_,_=>none
 | k+1,x26,x27,x28,x256000,x256001,x256002=>if x28<x27 then (if 0≤x28 then (if x28<(x26.length:Int) then (if x256002.length<140737488355328 then (spec_l2copy.l1 k x26 x27 (wrap64 (x28+1)) x256000 x256001 (x256002 ++ [rdOf false x26 x28])) else (none)) else (none)) else (none)) else (some (x256000,x256001,x256002))
end
def spec_l2copy.f (k:Nat) (a0_0:Bool) (l0_1:List (S50)) (l0_2:List Bool):Option (Bool × (List (S50)) × List Bool):=spec_l2copy.l0 k l0_1 (l0_1.length:Int) 0 a0_0 l0_1 l0_2 a0_0 ([]:List (S50))
set_option maxHeartbeats 8000000 in
set_option maxRecDepth 100000 in
theorem spec_l2copy.calls (k:Nat) (a0_0:Bool) (A0_1:Option Addr) (c0_1:Nat) (l0_1:List (S50)) (A0_2:Option Addr) (c0_2:Nat) (l0_2:List Bool) (r1:Bool) (r2:List (S50)) (r3:List Bool) (w:World) (hr0_1:Kd.C k50 w A0_1 l0_1.length l0_1) (hc0_1:l0_1.length≤c0_1) (hr0_2:Kd.C Kd.bool w A0_2 l0_2.length l0_2) (hc0_2:l0_2.length≤c0_2) (h:spec_l2copy.f k a0_0 l0_1 l0_2=some (r1,r2,r3)) :
  Calls Try.prog 93 #[.agg #[.bool a0_0,.slice A0_1 l0_1.length c0_1,.slice A0_2 l0_2.length c0_2]] w fun e w'=>∃ v1_ v2_:Value,e=.returned (.agg #[.bool r1,v1_,v2_])∧Kd.R k50 50 w' w.heap.size (fun _=>True) v1_ r2∧Kd.R Kd.bool 4 w' w.heap.size (fun _=>True) v2_ r3∧Below w.heap.size w w':=by
 have hu46:=Try.underlying46
 have hu50:=Try.underlying50
 have HR0_1:=Aside0.mk hr0_1
 have HC0_1:=Aside0.mk hc0_1
 clear hr0_1 hc0_1
 have HR0_2:=Aside0.mk hr0_2
 have HC0_2:=Aside0.mk hc0_2
 clear hr0_2 hc0_2
 have HB:=Aside0.mk (Below.refl w.heap.size w)
 have H:(spec_l2copy.l0 k l0_1 (l0_1.length:Int) 0 a0_0 l0_1 l0_2 a0_0 ([]:List (S50)))=some (r1,r2,r3):=h
 clear h
 have H':=Aside0.mk H
 clear H
 go_enter Try.func93,Try.ntmps93
 go_wp2_with (first|((with_reducible refine gate_dst (N:=1) rfl ?_);refine box_event ?hg (N:=1) ?hd (cs:=#[.bool a0_0,.slice A0_1 l0_1.length c0_1,.slice A0_2 l0_2.length c0_2]) (t:=46) ?hr ?_;(case hd=>rfl);(case hg=>rfl);(case hr=>first|(go_simp;done)|(go_simp;rfl));intro gb253 hg w2 hbox hb;have n0_:=Aside0.mk (below_step (by repeat (first|(with_reducible first|exact HB.out|apply below_alloc|apply pw_below_drewN|apply below_drew1)|exact HB.out)) hb);have n1_:=Aside0.mk (hbox);have n2_:=Aside0.mk ((by rw [hg];exact (below_size (by repeat (first|(with_reducible first|exact HB.out|apply below_alloc|apply pw_below_drewN|apply below_drew1)|exact HB.out))):w.heap.size≤gb253));have n3_:=Aside0.mk ((by rw [hg];exact (below_size (by repeat (first|(with_reducible first|exact HB.out|apply below_alloc|apply pw_below_drewN|apply below_drew1)|exact HB.out))):w.heap.size≤gb253));clear HB;have HB:=n0_;have BK253:=n1_;have GW253:=n2_;have GE253:=n3_;clear n0_ n1_ n2_ n3_;clear hb hbox hg)|((with_reducible refine gate_dst (N:=2) rfl ?_);refine box_event ?hg (N:=2) ?hd (cs:=#[.bool false,.slice none 0 0,.slice none 0 0]) (t:=46) ?hr ?_;(case hd=>rfl);(case hg=>rfl);(case hr=>first|(go_simp;done)|(go_simp;rfl));intro gb254 hg w3 hbox hb;have n0_:=Aside0.mk (blk_below (g:=gb253) (o:=.cells #[.bool a0_0,.slice A0_1 l0_1.length c0_1,.slice A0_2 l0_2.length c0_2] 46 (0,0)) (by (with_reducible repeat (first|refine blk_drewN ?_ _|refine blk_drew ?_|refine blk_alloc ?_ _));exact BK253.out) hb);have n1_:=Aside0.mk (below_step (by repeat (first|(with_reducible first|exact HB.out|apply below_alloc|apply pw_below_drewN|apply below_drew1|refine below_set ?_ GE253.out)|exact HB.out)) hb);have n2_:=Aside0.mk (hbox);have n3_:=Aside0.mk ((by rw [hg];exact (below_size (by repeat (first|(with_reducible first|exact HB.out|apply below_alloc|apply pw_below_drewN|apply below_drew1|refine below_set ?_ GE253.out)|exact HB.out))):w.heap.size≤gb254));have n4_:=Aside0.mk ((by rw [hg];exact (below_size (by repeat (first|(with_reducible first|exact HB.out|apply below_alloc|apply pw_below_drewN|apply below_drew1|refine below_set ?_ GE253.out)|exact HB.out))):w.heap.size≤gb254));have n5_:=Aside0.mk ((by rw [hg];exact Nat.ne_of_lt (blk_lt (g:=gb253) (o:=.cells #[.bool a0_0,.slice A0_1 l0_1.length c0_1,.slice A0_2 l0_2.length c0_2] 46 (0,0)) (by (with_reducible repeat (first|refine blk_drewN ?_ _|refine blk_drew ?_|refine blk_alloc ?_ _));exact BK253.out)):gb253 ≠ gb254));have n6_:=Aside0.mk ((by rw [hg];exact Nat.ne_of_gt (blk_lt (g:=gb253) (o:=.cells #[.bool a0_0,.slice A0_1 l0_1.length c0_1,.slice A0_2 l0_2.length c0_2] 46 (0,0)) (by (with_reducible repeat (first|refine blk_drewN ?_ _|refine blk_drew ?_|refine blk_alloc ?_ _));exact BK253.out)):gb254 ≠ gb253));clear BK253;clear HB;have BK253:=n0_;have HB:=n1_;have BK254:=n2_;have GW254:=n3_;have GE254:=n4_;have NB253_254:=n5_;have NB254_253:=n6_;clear n0_ n1_ n2_ n3_ n4_ n5_ n6_;clear hb hbox hg;have hnb4:=NB253_254.out;have hnc4:=NB254_253.out;have hcz5_0:w3.cell? ⟨gb253,0,none⟩=some (.bool a0_0):=(blk_cell BK253.out 0).trans rfl;have hcz5_1:w3.cell? ⟨gb253,1,none⟩=some (.slice A0_1 l0_1.length c0_1):=(blk_cell BK253.out 1).trans rfl;have hcz5_2:w3.cell? ⟨gb253,2,none⟩=some (.slice A0_2 l0_2.length c0_2):=(blk_cell BK253.out 2).trans rfl;have hfz5_0:=blk_frozen BK253.out 0;have hfz5_1:=blk_frozen BK253.out 1;have hfz5_2:=blk_frozen BK253.out 2)|((with_reducible refine gate_dst (N:=3) rfl ?_);refine box_event ?hg (N:=3) ?hd (cs:=#[.bool false,.slice none 0 0,.slice none 0 0]) (t:=46) ?hr ?_;(case hd=>rfl);(case hg=>rfl);(case hr=>first|(go_simp;done)|(go_simp;rfl));intro gb255 hg w6 hbox hb;have n0_:=Aside0.mk (blk_below (g:=gb253) (o:=.cells #[.bool a0_0,.slice A0_1 l0_1.length c0_1,.slice A0_2 l0_2.length c0_2] 46 (0,0)) (by (with_reducible repeat (first|refine blk_drewN ?_ _|refine blk_drew ?_|refine blk_alloc ?_ _));exact BK253.out) hb);have n1_:=Aside0.mk (blk_below (g:=gb254) (o:=.cells #[.bool false,.slice none 0 0,.slice none 0 0] 46 (0,0)) (by (with_reducible repeat (first|refine blk_drewN ?_ _|refine blk_drew ?_|refine blk_alloc ?_ _));exact BK254.out) hb);have n2_:=Aside0.mk (below_step (by repeat (first|(with_reducible first|exact HB.out|apply below_alloc|apply pw_below_drewN|apply below_drew1|refine below_set ?_ GE253.out|refine below_set ?_ GE254.out)|exact HB.out)) hb);have n3_:=Aside0.mk (hbox);have n4_:=Aside0.mk ((by rw [hg];exact (below_size (by repeat (first|(with_reducible first|exact HB.out|apply below_alloc|apply pw_below_drewN|apply below_drew1|refine below_set ?_ GE253.out|refine below_set ?_ GE254.out)|exact HB.out))):w.heap.size≤gb255));have n5_:=Aside0.mk ((by rw [hg];exact (below_size (by repeat (first|(with_reducible first|exact HB.out|apply below_alloc|apply pw_below_drewN|apply below_drew1|refine below_set ?_ GE253.out|refine below_set ?_ GE254.out)|exact HB.out))):w.heap.size≤gb255));have n6_:=Aside0.mk ((by rw [hg];exact Nat.ne_of_lt (blk_lt (g:=gb253) (o:=.cells #[.bool a0_0,.slice A0_1 l0_1.length c0_1,.slice A0_2 l0_2.length c0_2] 46 (0,0)) (by (with_reducible repeat (first|refine blk_drewN ?_ _|refine blk_drew ?_|refine blk_alloc ?_ _));exact BK253.out)):gb253 ≠ gb255));have n7_:=Aside0.mk ((by rw [hg];exact Nat.ne_of_gt (blk_lt (g:=gb253) (o:=.cells #[.bool a0_0,.slice A0_1 l0_1.length c0_1,.slice A0_2 l0_2.length c0_2] 46 (0,0)) (by (with_reducible repeat (first|refine blk_drewN ?_ _|refine blk_drew ?_|refine blk_alloc ?_ _));exact BK253.out)):gb255 ≠ gb253));have n8_:=Aside0.mk ((by rw [hg];exact Nat.ne_of_lt (blk_lt (g:=gb254) (o:=.cells #[.bool false,.slice none 0 0,.slice none 0 0] 46 (0,0)) (by (with_reducible repeat (first|refine blk_drewN ?_ _|refine blk_drew ?_|refine blk_alloc ?_ _));exact BK254.out)):gb254 ≠ gb255));have n9_:=Aside0.mk ((by rw [hg];exact Nat.ne_of_gt (blk_lt (g:=gb254) (o:=.cells #[.bool false,.slice none 0 0,.slice none 0 0] 46 (0,0)) (by (with_reducible repeat (first|refine blk_drewN ?_ _|refine blk_drew ?_|refine blk_alloc ?_ _));exact BK254.out)):gb255 ≠ gb254));clear BK253;clear BK254;clear HB;have BK253:=n0_;have BK254:=n1_;have HB:=n2_;have BK255:=n3_;have GW255:=n4_;have GE255:=n5_;have NB253_255:=n6_;have NB255_253:=n7_;have NB254_255:=n8_;have NB255_254:=n9_;clear n0_ n1_ n2_ n3_ n4_ n5_ n6_ n7_ n8_ n9_;clear hb hbox hg;have hnb7:=NB255_253.out;have hnc7:=NB253_255.out;have hnb8:=NB255_254.out;have hnc8:=NB254_255.out;have hcz9_0:w6.cell? ⟨gb255,0,none⟩=some (.bool false):=(blk_cell BK255.out 0).trans rfl;have hcz9_1:w6.cell? ⟨gb255,1,none⟩=some (.slice none 0 0):=(blk_cell BK255.out 1).trans rfl;have hcz9_2:w6.cell? ⟨gb255,2,none⟩=some (.slice none 0 0):=(blk_cell BK255.out 2).trans rfl;have hfz9_0:=blk_frozen BK255.out 0;have hfz9_1:=blk_frozen BK255.out 1;have hfz9_2:=blk_frozen BK255.out 2;have hcz10_0:w6.cell? ⟨gb253,0,none⟩=some (.bool a0_0):=(blk_cell BK253.out 0).trans rfl;have hcz10_1:w6.cell? ⟨gb253,1,none⟩=some (.slice A0_1 l0_1.length c0_1):=(blk_cell BK253.out 1).trans rfl;have hcz10_2:w6.cell? ⟨gb253,2,none⟩=some (.slice A0_2 l0_2.length c0_2):=(blk_cell BK253.out 2).trans rfl;have hfz10_0:=blk_frozen BK253.out 0;have hfz10_1:=blk_frozen BK253.out 1;have hfz10_2:=blk_frozen BK253.out 2))
 go_loopg [14] k (fun kq v14 w'=>∃ (x14_1:Int) (x256001_1:List (S50)) (u256001:Value),v14=.int .i64 x14_1∧Aside0 (spec_l2copy.l0 kq l0_1 (l0_1.length:Int) x14_1 a0_0 l0_1 l0_2 a0_0 x256001_1=some (r1,r2,r3))∧Aside0 (kq≤k)∧Aside0 (Kd.R k50 50 w' w.heap.size (fun _=>True) u256001 x256001_1)∧Aside0 (w'.heap[gb253]?=some (.cells #[.bool a0_0,(.slice A0_1 l0_1.length c0_1),(.slice A0_2 l0_2.length c0_2)] 46 (0,0)))∧Aside0 (w'.heap[gb254]?=some (.cells #[.bool false,(.slice none 0 0),(.slice none 0 0)] 46 (0,0)))∧Aside0 (w'.heap[gb255]?=some (.cells #[.bool a0_0,u256001,(.slice none 0 0)] 46 (0,0)))∧Aside0 (Below w.heap.size w w'))
 case atStart=>exact ⟨(0),(([]:List (S50))),(.slice none 0 0),(by first|rfl|(simp;done)|(simp [*];done)),H',⟨Nat.le_refl _⟩,⟨by first|exact Kd.R_nil _ _ _ _ _|exact Kd.N_nil _ _ _ _ _|exact Kd.V_nil _ _ _ _ _|exact Kd.Q_nil _ _ _ _ _|exact Kd.S_nil _ _ _ _ _⟩,⟨by (with_reducible repeat (first|refine blk_drewN ?_ _|refine blk_drew ?_|refine blk_alloc ?_ _));refine blk_far ?_ NB253_255.out _;(with_reducible repeat (first|refine blk_drewN ?_ _|refine blk_drew ?_|refine blk_alloc ?_ _));refine blk_far ?_ NB253_255.out _;(with_reducible repeat (first|refine blk_drewN ?_ _|refine blk_drew ?_|refine blk_alloc ?_ _));refine blk_far ?_ NB253_255.out _;(with_reducible repeat (first|refine blk_drewN ?_ _|refine blk_drew ?_|refine blk_alloc ?_ _));exact BK253.out⟩,⟨by (with_reducible repeat (first|refine blk_drewN ?_ _|refine blk_drew ?_|refine blk_alloc ?_ _));refine blk_far ?_ NB254_255.out _;(with_reducible repeat (first|refine blk_drewN ?_ _|refine blk_drew ?_|refine blk_alloc ?_ _));refine blk_far ?_ NB254_255.out _;(with_reducible repeat (first|refine blk_drewN ?_ _|refine blk_drew ?_|refine blk_alloc ?_ _));refine blk_far ?_ NB254_255.out _;(with_reducible repeat (first|refine blk_drewN ?_ _|refine blk_drew ?_|refine blk_alloc ?_ _));exact BK254.out⟩,⟨by (with_reducible repeat (first|refine blk_drewN ?_ _|refine blk_drew ?_|refine blk_alloc ?_ _));refine blk_put (cs:=#[.bool a0_0,.slice none 0 0,.slice none 0 0]) ?_ 2 _ rfl;(with_reducible repeat (first|refine blk_drewN ?_ _|refine blk_drew ?_|refine blk_alloc ?_ _));refine blk_put (cs:=#[.bool a0_0,.slice none 0 0,.slice none 0 0]) ?_ 1 _ rfl;(with_reducible repeat (first|refine blk_drewN ?_ _|refine blk_drew ?_|refine blk_alloc ?_ _));refine blk_put (cs:=#[.bool false,.slice none 0 0,.slice none 0 0]) ?_ 0 _ rfl;(with_reducible repeat (first|refine blk_drewN ?_ _|refine blk_drew ?_|refine blk_alloc ?_ _));exact BK255.out⟩,⟨by repeat (first|(with_reducible first|exact HB.out|apply below_alloc|apply pw_below_drewN|apply below_drew1|refine below_set ?_ GE253.out|refine below_set ?_ GE254.out|refine below_set ?_ GE255.out)|exact HB.out)⟩⟩
 case round =>
  clear H'
  try clear p2
  try clear c4
  try clear c7
  try clear c8
  try clear c9
  try clear hcz10_0
  try clear hcz10_1
  try clear hcz10_2
  try clear hcz5_0
  try clear hcz5_1
  try clear hcz5_2
  try clear hcz9_0
  try clear hcz9_1
  try clear hcz9_2
  try clear hfz10_0
  try clear hfz10_1
  try clear hfz10_2
  try clear hfz5_0
  try clear hfz5_1
  try clear hfz5_2
  try clear hfz9_0
  try clear hfz9_1
  try clear hfz9_2
  obtain ⟨x14_1,x256001_1,u256001,rfl,HA,HK1,HO_256001,BK253,BK254,BK255,HB⟩:=hrel
  cases gk with
  | zero=>exact absurd HA.out (by simp [spec_l2copy.l0])
  | succ k1 =>
   have H:=HA.out
   clear HA
   simp only [spec_l2copy.l0] at H
   by_cases c11:x14_1<(l0_1.length:Int)
   ·rw [if_pos c11] at H
    have c11b0:decide (x14_1<(l0_1.length:Int))=true:=decide_eq_true c11
    clear c11
    by_cases c12:0≤x14_1
    ·rw [if_pos c12] at H
     have c12b0:decide (0≤x14_1)=true:=decide_eq_true c12
     clear c12
     by_cases c13:x14_1<(l0_1.length:Int)
     ·rw [if_pos c13] at H
      have c13b0:decide (x14_1<(l0_1.length:Int))=true:=decide_eq_true c13
      clear c13
      by_cases c14:x256001_1.length<4398046511104
      ·rw [if_pos c14] at H
       have LMc14:=Aside0.mk c14
       clear c14
       obtain ⟨y258,hy258⟩:∃ y_:List (S50),y_=(x256001_1 ++ [(⟨(rd_T50 l0_1 x14_1).f0,(rd_T50 l0_1 x14_1).f1,(rd_T50 l0_1 x14_1).f2,(rd_T50 l0_1 x14_1).f3,(rd_T50 l0_1 x14_1).f4⟩:S50)]):=⟨_,rfl⟩
       replace H:(spec_l2copy.l0 k1 l0_1 (l0_1.length:Int) (wrap64 (x14_1+1)) a0_0 l0_1 l0_2 a0_0 y258)=some (r1,r2,r3):=by first|(rw [hy258];with_reducible exact H)|(have H2_:=(Option.bind_some _ _).symm.trans H;rw [hy258];with_reducible exact H2_)|(have H2_:=(Option.bind_some _ _).symm.trans H;with_reducible exact H2_)|with_reducible exact H|(rw [hy258];exact H)|exact H
       have Ny258:=Aside0.mk hy258
       clear hy258
       have H':=Aside0.mk H
       clear H
       have p256:0≤(x14_1:Int):=of_decide_eq_true (by first|(with_reducible assumption)|assumption)
       have q256:x14_1<(l0_1.length:Int):=of_decide_eq_true (by first|(with_reducible assumption)|assumption)
       obtain ⟨ad256,e256,hx256_0,hx256_1,hx256_2,hx256_3,hx256_4⟩:=at_T50 HR0_1.out x14_1 p256 q256
       cases e256
       replace hx256_0:=(HB.out.cell (World.block_lt_of_cell? w _ hx256_0)).trans hx256_0
       replace hx256_1:=(HB.out.cell (World.block_lt_of_cell? w _ hx256_1)).trans hx256_1
       replace hx256_2:=(HB.out.cell (World.block_lt_of_cell? w _ hx256_2)).trans hx256_2
       replace hx256_3:=(HB.out.cell (World.block_lt_of_cell? w _ hx256_3)).trans hx256_3
       replace hx256_4:=(HB.out.cell (World.block_lt_of_cell? w _ hx256_4)).trans hx256_4
       replace p256:=eq_true p256
       replace q256:=eq_true q256
       go_wp2_with (first|((with_reducible refine gate_dst (N:=5) rfl ?_);refine box_event ?hg (N:=5) ?hd (cs:=#[.int .i64 0,.int .i64 0,.bool false,.bool false,.int .i64 0]) (t:=50) ?hr ?_;(case hd=>rfl);(case hg=>rfl);(case hr=>first|(go_simp;done)|(go_simp;rfl));intro gb257 hg w15 hbox hb;have n0_:=Aside0.mk (Kd.R_below (Kd.R_elderB (by (with_reducible repeat (first|apply Kd.R_alloc|apply Kd.R_drewN|apply Kd.R_drew));exact HO_256001.out) gb257 (Nat.le_of_eq hg.symm)) hb);have n1_:=Aside0.mk (blk_below (g:=gb253) (o:=.cells #[.bool a0_0,.slice (some ad256) l0_1.length c0_1,.slice A0_2 l0_2.length c0_2] 46 (0,0)) (by (with_reducible repeat (first|refine blk_drewN ?_ _|refine blk_drew ?_|refine blk_alloc ?_ _));exact BK253.out) hb);have n2_:=Aside0.mk (blk_below (g:=gb254) (o:=.cells #[.bool false,.slice none 0 0,.slice none 0 0] 46 (0,0)) (by (with_reducible repeat (first|refine blk_drewN ?_ _|refine blk_drew ?_|refine blk_alloc ?_ _));exact BK254.out) hb);have n3_:=Aside0.mk (blk_below (g:=gb255) (o:=.cells #[.bool a0_0,u256001,.slice none 0 0] 46 (0,0)) (by (with_reducible repeat (first|refine blk_drewN ?_ _|refine blk_drew ?_|refine blk_alloc ?_ _));exact BK255.out) hb);have n4_:=Aside0.mk (below_step (by repeat (first|(with_reducible first|exact HB.out|apply below_alloc|apply pw_below_drewN|apply below_drew1|refine below_set ?_ GE253.out|refine below_set ?_ GE254.out|refine below_set ?_ GE255.out)|exact HB.out)) hb);have n5_:=Aside0.mk (hbox);have n6_:=Aside0.mk ((by rw [hg];exact (below_size (by repeat (first|(with_reducible first|exact HB.out|apply below_alloc|apply pw_below_drewN|apply below_drew1|refine below_set ?_ GE253.out|refine below_set ?_ GE254.out|refine below_set ?_ GE255.out)|exact HB.out))):w.heap.size≤gb257));have n7_:=Aside0.mk ((by rw [hg];exact (below_size (by repeat (first|(with_reducible first|exact HB.out|apply below_alloc|apply pw_below_drewN|apply below_drew1|refine below_set ?_ GE253.out|refine below_set ?_ GE254.out|refine below_set ?_ GE255.out)|exact HB.out))):w.heap.size≤gb257));have n8_:=Aside0.mk ((by rw [hg];exact Nat.ne_of_lt (blk_lt (g:=gb253) (o:=.cells #[.bool a0_0,.slice (some ad256) l0_1.length c0_1,.slice A0_2 l0_2.length c0_2] 46 (0,0)) (by (with_reducible repeat (first|refine blk_drewN ?_ _|refine blk_drew ?_|refine blk_alloc ?_ _));exact BK253.out)):gb253 ≠ gb257));have n9_:=Aside0.mk ((by rw [hg];exact Nat.ne_of_gt (blk_lt (g:=gb253) (o:=.cells #[.bool a0_0,.slice (some ad256) l0_1.length c0_1,.slice A0_2 l0_2.length c0_2] 46 (0,0)) (by (with_reducible repeat (first|refine blk_drewN ?_ _|refine blk_drew ?_|refine blk_alloc ?_ _));exact BK253.out)):gb257 ≠ gb253));have n10_:=Aside0.mk ((by rw [hg];exact Nat.ne_of_lt (blk_lt (g:=gb254) (o:=.cells #[.bool false,.slice none 0 0,.slice none 0 0] 46 (0,0)) (by (with_reducible repeat (first|refine blk_drewN ?_ _|refine blk_drew ?_|refine blk_alloc ?_ _));exact BK254.out)):gb254 ≠ gb257));have n11_:=Aside0.mk ((by rw [hg];exact Nat.ne_of_gt (blk_lt (g:=gb254) (o:=.cells #[.bool false,.slice none 0 0,.slice none 0 0] 46 (0,0)) (by (with_reducible repeat (first|refine blk_drewN ?_ _|refine blk_drew ?_|refine blk_alloc ?_ _));exact BK254.out)):gb257 ≠ gb254));have n12_:=Aside0.mk ((by rw [hg];exact Nat.ne_of_lt (blk_lt (g:=gb255) (o:=.cells #[.bool a0_0,u256001,.slice none 0 0] 46 (0,0)) (by (with_reducible repeat (first|refine blk_drewN ?_ _|refine blk_drew ?_|refine blk_alloc ?_ _));exact BK255.out)):gb255 ≠ gb257));have n13_:=Aside0.mk ((by rw [hg];exact Nat.ne_of_gt (blk_lt (g:=gb255) (o:=.cells #[.bool a0_0,u256001,.slice none 0 0] 46 (0,0)) (by (with_reducible repeat (first|refine blk_drewN ?_ _|refine blk_drew ?_|refine blk_alloc ?_ _));exact BK255.out)):gb257 ≠ gb255));clear HO_256001;clear BK253;clear BK254;clear BK255;clear HB;have HO_256001:=n0_;have BK253:=n1_;have BK254:=n2_;have BK255:=n3_;have HB:=n4_;have BK257:=n5_;have GW257:=n6_;have GE257:=n7_;have NB253_257:=n8_;have NB257_253:=n9_;have NB254_257:=n10_;have NB257_254:=n11_;have NB255_257:=n12_;have NB257_255:=n13_;clear n0_ n1_ n2_ n3_ n4_ n5_ n6_ n7_ n8_ n9_ n10_ n11_ n12_ n13_;clear hb hbox hg;have hnb16:=NB257_253.out;have hnc16:=NB253_257.out;have hnb17:=NB257_254.out;have hnc17:=NB254_257.out;have hnb18:=NB257_255.out;have hnc18:=NB255_257.out;have hcz19_0:w15.cell? ⟨gb257,0,none⟩=some (.int .i64 0):=(blk_cell BK257.out 0).trans rfl;have hcz19_1:w15.cell? ⟨gb257,1,none⟩=some (.int .i64 0):=(blk_cell BK257.out 1).trans rfl;have hcz19_2:w15.cell? ⟨gb257,2,none⟩=some (.bool false):=(blk_cell BK257.out 2).trans rfl;have hcz19_3:w15.cell? ⟨gb257,3,none⟩=some (.bool false):=(blk_cell BK257.out 3).trans rfl;have hcz19_4:w15.cell? ⟨gb257,4,none⟩=some (.int .i64 0):=(blk_cell BK257.out 4).trans rfl;have hfz19_0:=blk_frozen BK257.out 0;have hfz19_1:=blk_frozen BK257.out 1;have hfz19_2:=blk_frozen BK257.out 2;have hfz19_3:=blk_frozen BK257.out 3;have hfz19_4:=blk_frozen BK257.out 4;have hnb20:=NB255_253.out;have hnc20:=NB253_255.out;have hnb21:=NB255_254.out;have hnc21:=NB254_255.out;have hcz22_0:w15.cell? ⟨gb255,0,none⟩=some (.bool a0_0):=(blk_cell BK255.out 0).trans rfl;have hcz22_1:w15.cell? ⟨gb255,1,none⟩=some (u256001):=(blk_cell BK255.out 1).trans rfl;have hcz22_2:w15.cell? ⟨gb255,2,none⟩=some (.slice none 0 0):=(blk_cell BK255.out 2).trans rfl;have hfz22_0:=blk_frozen BK255.out 0;have hfz22_1:=blk_frozen BK255.out 1;have hfz22_2:=blk_frozen BK255.out 2)|((with_reducible refine gate_builtin (b:=.append) (xs:=#[.tmp 19,.tmp 21]) rfl ?_);at_builtin;refine Kd.R_append k50 (w0:=w) w.heap.size rfl (.tmp 19) (.tmp 21) 43 50 (.agg #[(.int .i64 0),(.int .i64 0),(.bool false),(.bool false),(.int .i64 0)]) 32 rfl Try.underlying43 info50 rfl (by decide) (by omega) u256001 x256001_1 (⟨(rd_T50 l0_1 x14_1).f0,(rd_T50 l0_1 x14_1).f1,(rd_T50 l0_1 x14_1).f2,(rd_T50 l0_1 x14_1).f3,(rd_T50 l0_1 x14_1).f4⟩:S50) [.int .i64 ((rd_T50 l0_1 x14_1).f0),.int .i64 ((rd_T50 l0_1 x14_1).f1),.bool ((rd_T50 l0_1 x14_1).f2),.bool ((rd_T50 l0_1 x14_1).f3),.int .i64 ((rd_T50 l0_1 x14_1).f4)] (fun k_=>k_ ≠ gb257) (fun _=>False) rfl (by first|(go_simp;done)|(go_simp;rfl)) ?aP (fun _ hk=>hk.elim) ?aF ?aO ?aB ?aS ?aL ?_;(case aP=>exact k50_mkM _ _ _ (⟨(rd_T50 l0_1 x14_1).f0,(rd_T50 l0_1 x14_1).f1,(rd_T50 l0_1 x14_1).f2,(rd_T50 l0_1 x14_1).f3,(rd_T50 l0_1 x14_1).f4⟩:S50));(case aB=>exact (by repeat (first|(with_reducible first|exact HB.out|apply below_alloc|apply pw_below_drewN|apply below_drew1|refine below_set ?_ GE253.out|refine below_set ?_ GE254.out|refine below_set ?_ GE255.out|refine below_set ?_ GE257.out)|exact HB.out)));(case aF=>exact (fun k_ hk=>Kd.freshB (g:=gb257) (o:=.cells #[.int .i64 ((rd_T50 l0_1 x14_1).f0),.int .i64 ((rd_T50 l0_1 x14_1).f1),.bool ((rd_T50 l0_1 x14_1).f2),.bool ((rd_T50 l0_1 x14_1).f3),.int .i64 ((rd_T50 l0_1 x14_1).f4)] 50 (0,0)) (by (with_reducible repeat (first|refine blk_drewN ?_ _|refine blk_drew ?_|refine blk_alloc ?_ _));refine blk_put (cs:=#[.int .i64 ((rd_T50 l0_1 x14_1).f0),.int .i64 ((rd_T50 l0_1 x14_1).f1),.bool ((rd_T50 l0_1 x14_1).f2),.bool ((rd_T50 l0_1 x14_1).f3),.int .i64 0]) ?_ 4 _ rfl;(with_reducible repeat (first|refine blk_drewN ?_ _|refine blk_drew ?_|refine blk_alloc ?_ _));refine blk_put (cs:=#[.int .i64 ((rd_T50 l0_1 x14_1).f0),.int .i64 ((rd_T50 l0_1 x14_1).f1),.bool ((rd_T50 l0_1 x14_1).f2),.bool false,.int .i64 0]) ?_ 3 _ rfl;(with_reducible repeat (first|refine blk_drewN ?_ _|refine blk_drew ?_|refine blk_alloc ?_ _));refine blk_put (cs:=#[.int .i64 ((rd_T50 l0_1 x14_1).f0),.int .i64 ((rd_T50 l0_1 x14_1).f1),.bool false,.bool false,.int .i64 0]) ?_ 2 _ rfl;(with_reducible repeat (first|refine blk_drewN ?_ _|refine blk_drew ?_|refine blk_alloc ?_ _));refine blk_put (cs:=#[.int .i64 ((rd_T50 l0_1 x14_1).f0),.int .i64 0,.bool false,.bool false,.int .i64 0]) ?_ 1 _ rfl;(with_reducible repeat (first|refine blk_drewN ?_ _|refine blk_drew ?_|refine blk_alloc ?_ _));refine blk_put (cs:=#[.int .i64 0,.int .i64 0,.bool false,.bool false,.int .i64 0]) ?_ 0 _ rfl;(with_reducible repeat (first|refine blk_drewN ?_ _|refine blk_drew ?_|refine blk_alloc ?_ _));exact BK257.out) k_ hk));(case aO=>exact (by (with_reducible repeat (first|apply Kd.R_alloc|apply Kd.R_drewN|apply Kd.R_drew));exact Kd.R_mono (Kd.R_far (p:=⟨gb257,4,none⟩) (Kd.R_far (p:=⟨gb257,3,none⟩) (Kd.R_far (p:=⟨gb257,2,none⟩) (Kd.R_far (p:=⟨gb257,1,none⟩) (Kd.R_far (p:=⟨gb257,0,none⟩) (Kd.R_mono HO_256001.out (fun k_ hk=>(⟨hk,hk.2⟩:_∧k_ ≠ gb257))) (fun _ hk=>hk.2) (.int .i64 ((rd_T50 l0_1 x14_1).f0))) (fun _ hk=>hk.2) (.int .i64 ((rd_T50 l0_1 x14_1).f1))) (fun _ hk=>hk.2) (.bool ((rd_T50 l0_1 x14_1).f2))) (fun _ hk=>hk.2) (.bool ((rd_T50 l0_1 x14_1).f3))) (fun _ hk=>hk.2) (.int .i64 ((rd_T50 l0_1 x14_1).f4))) (fun _ hk=>hk.1.2)));(case aS=>exact (below_size (by repeat (first|(with_reducible first|exact HB.out|apply below_alloc|apply pw_below_drewN|apply below_drew1|refine below_set ?_ GE253.out|refine below_set ?_ GE254.out|refine below_set ?_ GE255.out|refine below_set ?_ GE257.out)|exact HB.out))));(case aL=>have:=LMc14.out;omega);intro v259 w23 ho hb hg hat;rw [← Ny258.out] at ho;have n0_:=Aside0.mk (blk_grown (g:=gb253) (o:=.cells #[.bool a0_0,.slice (some ad256) l0_1.length c0_1,.slice A0_2 l0_2.length c0_2] 46 (0,0)) (by (with_reducible repeat (first|refine blk_drewN ?_ _|refine blk_drew ?_|refine blk_alloc ?_ _));refine blk_far ?_ NB253_257.out _;(with_reducible repeat (first|refine blk_drewN ?_ _|refine blk_drew ?_|refine blk_alloc ?_ _));refine blk_far ?_ NB253_257.out _;(with_reducible repeat (first|refine blk_drewN ?_ _|refine blk_drew ?_|refine blk_alloc ?_ _));refine blk_far ?_ NB253_257.out _;(with_reducible repeat (first|refine blk_drewN ?_ _|refine blk_drew ?_|refine blk_alloc ?_ _));refine blk_far ?_ NB253_257.out _;(with_reducible repeat (first|refine blk_drewN ?_ _|refine blk_drew ?_|refine blk_alloc ?_ _));refine blk_far ?_ NB253_257.out _;(with_reducible repeat (first|refine blk_drewN ?_ _|refine blk_drew ?_|refine blk_alloc ?_ _));exact BK253.out) hg (Kd.R_ne HO_256001.out BK253.out (by decide)));have n1_:=Aside0.mk (blk_grown (g:=gb254) (o:=.cells #[.bool false,.slice none 0 0,.slice none 0 0] 46 (0,0)) (by (with_reducible repeat (first|refine blk_drewN ?_ _|refine blk_drew ?_|refine blk_alloc ?_ _));refine blk_far ?_ NB254_257.out _;(with_reducible repeat (first|refine blk_drewN ?_ _|refine blk_drew ?_|refine blk_alloc ?_ _));refine blk_far ?_ NB254_257.out _;(with_reducible repeat (first|refine blk_drewN ?_ _|refine blk_drew ?_|refine blk_alloc ?_ _));refine blk_far ?_ NB254_257.out _;(with_reducible repeat (first|refine blk_drewN ?_ _|refine blk_drew ?_|refine blk_alloc ?_ _));refine blk_far ?_ NB254_257.out _;(with_reducible repeat (first|refine blk_drewN ?_ _|refine blk_drew ?_|refine blk_alloc ?_ _));refine blk_far ?_ NB254_257.out _;(with_reducible repeat (first|refine blk_drewN ?_ _|refine blk_drew ?_|refine blk_alloc ?_ _));exact BK254.out) hg (Kd.R_ne HO_256001.out BK254.out (by decide)));have n2_:=Aside0.mk (blk_grown (g:=gb255) (o:=.cells #[.bool a0_0,u256001,.slice none 0 0] 46 (0,0)) (by (with_reducible repeat (first|refine blk_drewN ?_ _|refine blk_drew ?_|refine blk_alloc ?_ _));refine blk_far ?_ NB255_257.out _;(with_reducible repeat (first|refine blk_drewN ?_ _|refine blk_drew ?_|refine blk_alloc ?_ _));refine blk_far ?_ NB255_257.out _;(with_reducible repeat (first|refine blk_drewN ?_ _|refine blk_drew ?_|refine blk_alloc ?_ _));refine blk_far ?_ NB255_257.out _;(with_reducible repeat (first|refine blk_drewN ?_ _|refine blk_drew ?_|refine blk_alloc ?_ _));refine blk_far ?_ NB255_257.out _;(with_reducible repeat (first|refine blk_drewN ?_ _|refine blk_drew ?_|refine blk_alloc ?_ _));refine blk_far ?_ NB255_257.out _;(with_reducible repeat (first|refine blk_drewN ?_ _|refine blk_drew ?_|refine blk_alloc ?_ _));exact BK255.out) hg (Kd.R_ne HO_256001.out BK255.out (by decide)));have n3_:=Aside0.mk (blk_grown (g:=gb257) (o:=.cells #[.int .i64 ((rd_T50 l0_1 x14_1).f0),.int .i64 ((rd_T50 l0_1 x14_1).f1),.bool ((rd_T50 l0_1 x14_1).f2),.bool ((rd_T50 l0_1 x14_1).f3),.int .i64 ((rd_T50 l0_1 x14_1).f4)] 50 (0,0)) (by (with_reducible repeat (first|refine blk_drewN ?_ _|refine blk_drew ?_|refine blk_alloc ?_ _));refine blk_put (cs:=#[.int .i64 ((rd_T50 l0_1 x14_1).f0),.int .i64 ((rd_T50 l0_1 x14_1).f1),.bool ((rd_T50 l0_1 x14_1).f2),.bool ((rd_T50 l0_1 x14_1).f3),.int .i64 0]) ?_ 4 _ rfl;(with_reducible repeat (first|refine blk_drewN ?_ _|refine blk_drew ?_|refine blk_alloc ?_ _));refine blk_put (cs:=#[.int .i64 ((rd_T50 l0_1 x14_1).f0),.int .i64 ((rd_T50 l0_1 x14_1).f1),.bool ((rd_T50 l0_1 x14_1).f2),.bool false,.int .i64 0]) ?_ 3 _ rfl;(with_reducible repeat (first|refine blk_drewN ?_ _|refine blk_drew ?_|refine blk_alloc ?_ _));refine blk_put (cs:=#[.int .i64 ((rd_T50 l0_1 x14_1).f0),.int .i64 ((rd_T50 l0_1 x14_1).f1),.bool false,.bool false,.int .i64 0]) ?_ 2 _ rfl;(with_reducible repeat (first|refine blk_drewN ?_ _|refine blk_drew ?_|refine blk_alloc ?_ _));refine blk_put (cs:=#[.int .i64 ((rd_T50 l0_1 x14_1).f0),.int .i64 0,.bool false,.bool false,.int .i64 0]) ?_ 1 _ rfl;(with_reducible repeat (first|refine blk_drewN ?_ _|refine blk_drew ?_|refine blk_alloc ?_ _));refine blk_put (cs:=#[.int .i64 0,.int .i64 0,.bool false,.bool false,.int .i64 0]) ?_ 0 _ rfl;(with_reducible repeat (first|refine blk_drewN ?_ _|refine blk_drew ?_|refine blk_alloc ?_ _));exact BK257.out) hg (Kd.R_away HO_256001.out (fun _ hk=>hk.2)));have n4_:=Aside0.mk (hb);have n5_:=Aside0.mk (ho);clear BK253;clear BK254;clear BK255;clear BK257;clear HB;clear HO_256001;have BK253:=n0_;have BK254:=n1_;have BK255:=n2_;have BK257:=n3_;have HB:=n4_;have HO260:=n5_;clear n0_ n1_ n2_ n3_ n4_ n5_;clear ho hb hg hat;obtain ⟨Ao24,co24,eo24⟩:=Kd.R_slice HO260.out;subst eo24;have hcz25_0:w23.cell? ⟨gb255,0,none⟩=some (.bool a0_0):=(blk_cell BK255.out 0).trans rfl;have hcz25_1:w23.cell? ⟨gb255,1,none⟩=some (u256001):=(blk_cell BK255.out 1).trans rfl;have hcz25_2:w23.cell? ⟨gb255,2,none⟩=some (.slice none 0 0):=(blk_cell BK255.out 2).trans rfl;have hfz25_0:=blk_frozen BK255.out 0;have hfz25_1:=blk_frozen BK255.out 1;have hfz25_2:=blk_frozen BK255.out 2))
       go_roundg k1
       case measure=>have:=HK1.out;omega
       case rel=>exact ⟨(wrap64 (x14_1+1)),(y258),(.slice Ao24 y258.length co24),(by first|rfl|(simp;done)|(simp [*];done)),H',⟨by have:=HK1.out;omega⟩,⟨by (with_reducible repeat (first|apply Kd.R_alloc|apply Kd.R_drewN|apply Kd.R_drew));exact Kd.R_mono (Kd.R_far (p:=⟨gb255,1,none⟩) (Kd.R_types HO260.out BK255.out (by decide)) (fun _ hk=>hk.2) (.slice Ao24 y258.length co24)) (fun _ hk=>trivial)⟩,⟨by (with_reducible repeat (first|refine blk_drewN ?_ _|refine blk_drew ?_|refine blk_alloc ?_ _));refine blk_far ?_ NB253_255.out _;(with_reducible repeat (first|refine blk_drewN ?_ _|refine blk_drew ?_|refine blk_alloc ?_ _));exact BK253.out⟩,⟨by (with_reducible repeat (first|refine blk_drewN ?_ _|refine blk_drew ?_|refine blk_alloc ?_ _));refine blk_far ?_ NB254_255.out _;(with_reducible repeat (first|refine blk_drewN ?_ _|refine blk_drew ?_|refine blk_alloc ?_ _));exact BK254.out⟩,⟨by (with_reducible repeat (first|refine blk_drewN ?_ _|refine blk_drew ?_|refine blk_alloc ?_ _));refine blk_put (cs:=#[.bool a0_0,u256001,.slice none 0 0]) ?_ 1 _ rfl;(with_reducible repeat (first|refine blk_drewN ?_ _|refine blk_drew ?_|refine blk_alloc ?_ _));exact BK255.out⟩,⟨by repeat (first|(with_reducible first|exact HB.out|apply below_alloc|apply pw_below_drewN|apply below_drew1|refine below_set ?_ GE253.out|refine below_set ?_ GE254.out|refine below_set ?_ GE255.out|refine below_set ?_ GE257.out)|exact HB.out)⟩⟩
      rw [if_neg c14] at H
      exact absurd H (by simp)
     rw [if_neg c13] at H
     exact absurd H (by simp)
    rw [if_neg c12] at H
    exact absurd H (by simp)
   rw [if_neg c11] at H
   have c11b0:decide (x14_1<(l0_1.length:Int))=false:=decide_eq_false c11
   clear c11
   have H':=Aside0.mk H
   clear H
   have hnb26:=NB253_254.out
   have hnc26:=NB254_253.out
   have hnb27:=NB253_255.out
   have hnc27:=NB255_253.out
   have hcz28_0:wr.cell? ⟨gb253,0,none⟩=some (.bool a0_0):=(blk_cell BK253.out 0).trans rfl
   have hcz28_1:wr.cell? ⟨gb253,1,none⟩=some (.slice A0_1 l0_1.length c0_1):=(blk_cell BK253.out 1).trans rfl
   have hcz28_2:wr.cell? ⟨gb253,2,none⟩=some (.slice A0_2 l0_2.length c0_2):=(blk_cell BK253.out 2).trans rfl
   have hfz28_0:=blk_frozen BK253.out 0
   have hfz28_1:=blk_frozen BK253.out 1
   have hfz28_2:=blk_frozen BK253.out 2
   go_wp2
   go_loopg [28] k1 (fun kq v28 w'=>∃ (x28_2:Int) (x256002_2:List Bool) (u256002:Value),v28=.int .i64 x28_2∧Aside0 (spec_l2copy.l1 kq l0_2 (l0_2.length:Int) x28_2 a0_0 x256001_1 x256002_2=some (r1,r2,r3))∧Aside0 (kq≤k1)∧Aside0 (Kd.R k50 50 w' w.heap.size (fun _=>True) u256001 x256001_1)∧Aside0 (Kd.R Kd.bool 4 w' w.heap.size (fun _=>True) u256002 x256002_2)∧Aside0 (w'.heap[gb253]?=some (.cells #[.bool a0_0,(.slice A0_1 l0_1.length c0_1),(.slice A0_2 l0_2.length c0_2)] 46 (0,0)))∧Aside0 (w'.heap[gb254]?=some (.cells #[.bool false,(.slice none 0 0),(.slice none 0 0)] 46 (0,0)))∧Aside0 (w'.heap[gb255]?=some (.cells #[.bool a0_0,u256001,u256002] 46 (0,0)))∧Aside0 (Below w.heap.size w w'))
   case atStart=>exact ⟨(0),(([]:List Bool)),(.slice none 0 0),(by first|rfl|(simp;done)|(simp [*];done)),H',⟨Nat.le_refl _⟩,⟨by (with_reducible repeat (first|apply Kd.R_alloc|apply Kd.R_drewN|apply Kd.R_drew));exact HO_256001.out⟩,⟨by first|exact Kd.R_nil _ _ _ _ _|exact Kd.N_nil _ _ _ _ _|exact Kd.V_nil _ _ _ _ _|exact Kd.Q_nil _ _ _ _ _|exact Kd.S_nil _ _ _ _ _⟩,⟨by (with_reducible repeat (first|refine blk_drewN ?_ _|refine blk_drew ?_|refine blk_alloc ?_ _));exact BK253.out⟩,⟨by (with_reducible repeat (first|refine blk_drewN ?_ _|refine blk_drew ?_|refine blk_alloc ?_ _));exact BK254.out⟩,⟨by (with_reducible repeat (first|refine blk_drewN ?_ _|refine blk_drew ?_|refine blk_alloc ?_ _));exact BK255.out⟩,⟨by repeat (first|(with_reducible first|exact HB.out|apply below_alloc|apply pw_below_drewN|apply below_drew1|refine below_set ?_ GE253.out|refine below_set ?_ GE254.out|refine below_set ?_ GE255.out)|exact HB.out)⟩⟩
   case round =>
    clear H'
    try clear c1
    try clear c2
    try clear p2
    try clear q2
    try clear hx2
    try clear c4
    try clear p6
    try clear c7
    try clear c8
    try clear c9
    try clear c11
    try clear c11b0
    try clear c12
    try clear c12b0
    try clear c13
    try clear c13b0
    try clear c14
    try clear c16
    try clear c17
    try clear c18
    try clear c20
    try clear c21
    try clear p25
    try clear q25
    try clear hx25
    try clear c26
    try clear c27
    try clear hcz10_0
    try clear hcz10_1
    try clear hcz10_2
    try clear hcz19_0
    try clear hcz19_1
    try clear hcz19_2
    try clear hcz19_3
    try clear hcz19_4
    try clear hcz22_0
    try clear hcz22_1
    try clear hcz22_2
    try clear hcz25_0
    try clear hcz25_1
    try clear hcz25_2
    try clear hcz28_0
    try clear hcz28_1
    try clear hcz28_2
    try clear hcz5_0
    try clear hcz5_1
    try clear hcz5_2
    try clear hcz9_0
    try clear hcz9_1
    try clear hcz9_2
    try clear hfz10_0
    try clear hfz10_1
    try clear hfz10_2
    try clear hfz19_0
    try clear hfz19_1
    try clear hfz19_2
    try clear hfz19_3
    try clear hfz19_4
    try clear hfz22_0
    try clear hfz22_1
    try clear hfz22_2
    try clear hfz25_0
    try clear hfz25_1
    try clear hfz25_2
    try clear hfz28_0
    try clear hfz28_1
    try clear hfz28_2
    try clear hfz5_0
    try clear hfz5_1
    try clear hfz5_2
    try clear hfz9_0
    try clear hfz9_1
    try clear hfz9_2
    try clear hx256_0
    try clear hx256_1
    try clear hx256_2
    try clear hx256_3
    try clear hx256_4
    try clear p2
    try clear p256
    try clear q256
    obtain ⟨x28_2,x256002_2,u256002,rfl,HA,HK2,HO_256001,HO_256002,BK253,BK254,BK255,HB⟩:=hrel
    cases gk with
    | zero=>exact absurd HA.out (by simp [spec_l2copy.l1])
    | succ k2 =>
     have H:=HA.out
     clear HA
     simp only [spec_l2copy.l1] at H
     by_cases c29:x28_2<(l0_2.length:Int)
     ·rw [if_pos c29] at H
      have c29b0:decide (x28_2<(l0_2.length:Int))=true:=decide_eq_true c29
      clear c29
      by_cases c30:0≤x28_2
      ·rw [if_pos c30] at H
       have c30b0:decide (0≤x28_2)=true:=decide_eq_true c30
       clear c30
       by_cases c31:x28_2<(l0_2.length:Int)
       ·rw [if_pos c31] at H
        have c31b0:decide (x28_2<(l0_2.length:Int))=true:=decide_eq_true c31
        clear c31
        by_cases c32:x256002_2.length<140737488355328
        ·rw [if_pos c32] at H
         have LMc32:=Aside0.mk c32
         clear c32
         obtain ⟨y262,hy262⟩:∃ y_:List Bool,y_=(x256002_2 ++ [rdOf false l0_2 x28_2]):=⟨_,rfl⟩
         replace H:(spec_l2copy.l1 k2 l0_2 (l0_2.length:Int) (wrap64 (x28_2+1)) a0_0 x256001_1 y262)=some (r1,r2,r3):=by first|(rw [hy262];with_reducible exact H)|(have H2_:=(Option.bind_some _ _).symm.trans H;rw [hy262];with_reducible exact H2_)|(have H2_:=(Option.bind_some _ _).symm.trans H;with_reducible exact H2_)|with_reducible exact H|(rw [hy262];exact H)|exact H
         have Ny262:=Aside0.mk hy262
         clear hy262
         have H':=Aside0.mk H
         clear H
         have p261:0≤(x28_2:Int):=of_decide_eq_true (by first|(with_reducible assumption)|assumption)
         have q261:x28_2<(l0_2.length:Int):=of_decide_eq_true (by first|(with_reducible assumption)|assumption)
         obtain ⟨ad261,e261,hx261_0⟩:=Kd.at_bool HR0_2.out x28_2 p261 q261
         cases e261
         replace hx261_0:=(HB.out.cell (World.block_lt_of_cell? w _ hx261_0)).trans hx261_0
         replace p261:=eq_true p261
         replace q261:=eq_true q261
         have hnb33:=NB255_253.out
         have hnc33:=NB253_255.out
         have hnb34:=NB255_254.out
         have hnc34:=NB254_255.out
         have hcz35_0:wr.cell? ⟨gb255,0,none⟩=some (.bool a0_0):=(blk_cell BK255.out 0).trans rfl
         have hcz35_1:wr.cell? ⟨gb255,1,none⟩=some (u256001):=(blk_cell BK255.out 1).trans rfl
         have hcz35_2:wr.cell? ⟨gb255,2,none⟩=some (u256002):=(blk_cell BK255.out 2).trans rfl
         have hfz35_0:=blk_frozen BK255.out 0
         have hfz35_1:=blk_frozen BK255.out 1
         have hfz35_2:=blk_frozen BK255.out 2
         go_wp2_with (first|((with_reducible refine gate_builtin (b:=.append) (xs:=#[.tmp 33,.tmp 35]) rfl ?_);at_builtin;refine Kd.R_append Kd.bool (w0:=w) w.heap.size rfl (.tmp 33) (.tmp 35) 44 4 (.bool false) 1 rfl Try.underlying44 info4 rfl (by decide) (by omega) u256002 x256002_2 (rdOf false l0_2 x28_2) [.bool (rdOf false l0_2 x28_2)] (fun _=>True) (fun _=>False) rfl rfl ?aP (fun _ hk=>hk.elim) ?aF ?aO ?aB ?aS ?aL ?_;(case aP=>exact rfl);(case aB=>exact (by repeat (first|(with_reducible first|exact HB.out|apply below_alloc|apply pw_below_drewN|apply below_drew1|refine below_set ?_ GE253.out|refine below_set ?_ GE254.out|refine below_set ?_ GE255.out)|exact HB.out)));(case aF=>exact (fun _ _=>trivial));(case aO=>exact (by (with_reducible repeat (first|apply Kd.R_alloc|apply Kd.R_drewN|apply Kd.R_drew));exact HO_256002.out));(case aS=>exact (below_size (by repeat (first|(with_reducible first|exact HB.out|apply below_alloc|apply pw_below_drewN|apply below_drew1|refine below_set ?_ GE253.out|refine below_set ?_ GE254.out|refine below_set ?_ GE255.out)|exact HB.out))));(case aL=>have:=LMc32.out;omega);intro v263 w36 ho hb hg hat;rw [← Ny262.out] at ho;have n0_:=Aside0.mk (Kd.R_over' (by (with_reducible repeat (first|apply Kd.R_alloc|apply Kd.R_drewN|apply Kd.R_drew));exact HO_256001.out) (Kd.R_typed (by (with_reducible repeat (first|apply Kd.R_alloc|apply Kd.R_drewN|apply Kd.R_drew));exact HO_256002.out)) (by decide) hg);have n1_:=Aside0.mk (blk_grown (g:=gb253) (o:=.cells #[.bool a0_0,.slice A0_1 l0_1.length c0_1,.slice (some ad261) l0_2.length c0_2] 46 (0,0)) (by (with_reducible repeat (first|refine blk_drewN ?_ _|refine blk_drew ?_|refine blk_alloc ?_ _));exact BK253.out) hg (Kd.R_ne HO_256002.out BK253.out (by decide)));have n2_:=Aside0.mk (blk_grown (g:=gb254) (o:=.cells #[.bool false,.slice none 0 0,.slice none 0 0] 46 (0,0)) (by (with_reducible repeat (first|refine blk_drewN ?_ _|refine blk_drew ?_|refine blk_alloc ?_ _));exact BK254.out) hg (Kd.R_ne HO_256002.out BK254.out (by decide)));have n3_:=Aside0.mk (blk_grown (g:=gb255) (o:=.cells #[.bool a0_0,u256001,u256002] 46 (0,0)) (by (with_reducible repeat (first|refine blk_drewN ?_ _|refine blk_drew ?_|refine blk_alloc ?_ _));exact BK255.out) hg (Kd.R_ne HO_256002.out BK255.out (by decide)));have n4_:=Aside0.mk (hb);have n5_:=Aside0.mk (ho);clear HO_256001;clear BK253;clear BK254;clear BK255;clear HB;clear HO_256002;have HO_256001:=n0_;have BK253:=n1_;have BK254:=n2_;have BK255:=n3_;have HB:=n4_;have HO264:=n5_;clear n0_ n1_ n2_ n3_ n4_ n5_;clear ho hb hg hat;obtain ⟨Ao37,co37,eo37⟩:=Kd.R_slice HO264.out;subst eo37;have hcz38_0:w36.cell? ⟨gb255,0,none⟩=some (.bool a0_0):=(blk_cell BK255.out 0).trans rfl;have hcz38_1:w36.cell? ⟨gb255,1,none⟩=some (u256001):=(blk_cell BK255.out 1).trans rfl;have hcz38_2:w36.cell? ⟨gb255,2,none⟩=some (u256002):=(blk_cell BK255.out 2).trans rfl;have hfz38_0:=blk_frozen BK255.out 0;have hfz38_1:=blk_frozen BK255.out 1;have hfz38_2:=blk_frozen BK255.out 2))
         go_roundg k2
         case measure=>have:=HK1.out;have:=HK2.out;omega
         case rel=>exact ⟨(wrap64 (x28_2+1)),(y262),(.slice Ao37 y262.length co37),(by first|rfl|(simp;done)|(simp [*];done)),H',⟨by have:=HK1.out;have:=HK2.out;omega⟩,⟨by (with_reducible repeat (first|apply Kd.R_alloc|apply Kd.R_drewN|apply Kd.R_drew));exact Kd.R_mono (Kd.R_far (p:=⟨gb255,2,none⟩) (Kd.R_types HO_256001.out BK255.out (by decide)) (fun _ hk=>hk.2) (.slice Ao37 y262.length co37)) (fun _ hk=>trivial)⟩,⟨by (with_reducible repeat (first|apply Kd.R_alloc|apply Kd.R_drewN|apply Kd.R_drew));exact Kd.R_mono (Kd.R_far (p:=⟨gb255,2,none⟩) (Kd.R_types HO264.out BK255.out (by decide)) (fun _ hk=>hk.2) (.slice Ao37 y262.length co37)) (fun _ hk=>trivial)⟩,⟨by (with_reducible repeat (first|refine blk_drewN ?_ _|refine blk_drew ?_|refine blk_alloc ?_ _));refine blk_far ?_ NB253_255.out _;(with_reducible repeat (first|refine blk_drewN ?_ _|refine blk_drew ?_|refine blk_alloc ?_ _));exact BK253.out⟩,⟨by (with_reducible repeat (first|refine blk_drewN ?_ _|refine blk_drew ?_|refine blk_alloc ?_ _));refine blk_far ?_ NB254_255.out _;(with_reducible repeat (first|refine blk_drewN ?_ _|refine blk_drew ?_|refine blk_alloc ?_ _));exact BK254.out⟩,⟨by (with_reducible repeat (first|refine blk_drewN ?_ _|refine blk_drew ?_|refine blk_alloc ?_ _));refine blk_put (cs:=#[.bool a0_0,u256001,u256002]) ?_ 2 _ rfl;(with_reducible repeat (first|refine blk_drewN ?_ _|refine blk_drew ?_|refine blk_alloc ?_ _));exact BK255.out⟩,⟨by repeat (first|(with_reducible first|exact HB.out|apply below_alloc|apply pw_below_drewN|apply below_drew1|refine below_set ?_ GE253.out|refine below_set ?_ GE254.out|refine below_set ?_ GE255.out)|exact HB.out)⟩⟩
        rw [if_neg c32] at H
        exact absurd H (by simp)
       rw [if_neg c31] at H
       exact absurd H (by simp)
      rw [if_neg c30] at H
      exact absurd H (by simp)
     rw [if_neg c29] at H
     have c29b0:decide (x28_2<(l0_2.length:Int))=false:=decide_eq_false c29
     clear c29
     simp only [Option.some.injEq,Prod.mk.injEq] at H
     obtain ⟨rfl,rfl,rfl⟩:=H
     have hnb39:=NB255_253.out
     have hnc39:=NB253_255.out
     have hnb40:=NB255_254.out
     have hnc40:=NB254_255.out
     have hcz41_0:wr.cell? ⟨gb255,0,none⟩=some (.bool a0_0):=(blk_cell BK255.out 0).trans rfl
     have hcz41_1:wr.cell? ⟨gb255,1,none⟩=some (u256001):=(blk_cell BK255.out 1).trans rfl
     have hcz41_2:wr.cell? ⟨gb255,2,none⟩=some (u256002):=(blk_cell BK255.out 2).trans rfl
     have hfz41_0:=blk_frozen BK255.out 0
     have hfz41_1:=blk_frozen BK255.out 1
     have hfz41_2:=blk_frozen BK255.out 2
     have hnb42:=NB254_253.out
     have hnc42:=NB253_254.out
     have hcz43_0:wr.cell? ⟨gb254,0,none⟩=some (.bool false):=(blk_cell BK254.out 0).trans rfl
     have hcz43_1:wr.cell? ⟨gb254,1,none⟩=some (.slice none 0 0):=(blk_cell BK254.out 1).trans rfl
     have hcz43_2:wr.cell? ⟨gb254,2,none⟩=some (.slice none 0 0):=(blk_cell BK254.out 2).trans rfl
     have hfz43_0:=blk_frozen BK254.out 0
     have hfz43_1:=blk_frozen BK254.out 1
     have hfz43_2:=blk_frozen BK254.out 2
     obtain ⟨Ao44,co44,eo44⟩:=Kd.R_slice HO_256001.out
     subst eo44
     obtain ⟨Ao45,co45,eo45⟩:=Kd.R_slice HO_256002.out
     subst eo45
     go_wp2
     refine bodyPost_ret (results_cell_row rfl _ _ gb254 46 #[.bool a0_0,.slice Ao44 x256001_1.length co44,.slice Ao45 x256002_2.length co45] (0,0) _ rfl (by (with_reducible repeat (first|refine blk_drewN ?_ _|refine blk_drew ?_|refine blk_alloc ?_ _));refine blk_put (cs:=#[.bool a0_0,.slice Ao44 x256001_1.length co44,.slice none 0 0]) ?_ 2 _ rfl;(with_reducible repeat (first|refine blk_drewN ?_ _|refine blk_drew ?_|refine blk_alloc ?_ _));refine blk_put (cs:=#[.bool a0_0,.slice none 0 0,.slice none 0 0]) ?_ 1 _ rfl;(with_reducible repeat (first|refine blk_drewN ?_ _|refine blk_drew ?_|refine blk_alloc ?_ _));refine blk_put (cs:=#[.bool false,.slice none 0 0,.slice none 0 0]) ?_ 0 _ rfl;(with_reducible repeat (first|refine blk_drewN ?_ _|refine blk_drew ?_|refine blk_alloc ?_ _));exact BK254.out) Try.underlying46 rfl (by kernel_rfl)) rfl ?_
     exact ⟨_,_,by first|rfl|(simp [errW_none,errW_some] <;> rfl)|(simp [*,errW_none,errW_some] <;> rfl),by (with_reducible repeat (first|apply Kd.R_alloc|apply Kd.R_drewN|apply Kd.R_drew));exact Kd.R_mono (Kd.R_far (p:=⟨gb254,2,none⟩) (Kd.R_far (p:=⟨gb254,1,none⟩) (Kd.R_far (p:=⟨gb254,0,none⟩) (Kd.R_types HO_256001.out BK254.out (by decide)) (fun _ hk=>hk.2) (.bool a0_0)) (fun _ hk=>hk.2) (.slice Ao44 x256001_1.length co44)) (fun _ hk=>hk.2) (.slice Ao45 x256002_2.length co45)) (fun _ hk=>trivial),by (with_reducible repeat (first|apply Kd.R_alloc|apply Kd.R_drewN|apply Kd.R_drew));exact Kd.R_mono (Kd.R_far (p:=⟨gb254,2,none⟩) (Kd.R_far (p:=⟨gb254,1,none⟩) (Kd.R_far (p:=⟨gb254,0,none⟩) (Kd.R_types HO_256002.out BK254.out (by decide)) (fun _ hk=>hk.2) (.bool a0_0)) (fun _ hk=>hk.2) (.slice Ao44 x256001_1.length co44)) (fun _ hk=>hk.2) (.slice Ao45 x256002_2.length co45)) (fun _ hk=>trivial),by repeat (first|(with_reducible first|exact HB.out|apply below_alloc|apply pw_below_drewN|apply below_drew1|refine below_set ?_ GE253.out|refine below_set ?_ GE254.out|refine below_set ?_ GE255.out)|exact HB.out)⟩
end Go.Proofs.Ytpdnabhpkdchjaa.P
namespace Go.Proofs.Ytpdnabhpkdchjaa.P
open Go.RowKit Go.Proofs.YtpdnabhpkdchjaaW.PrintWords Go.Proofs.YtpdnabhpkdchjaaW.PrintLast Go.Proofs.YtpdnabhpkdchjaaW.PrintMore
set_option linter.unusedVariables false
set_option linter.unusedSimpArgs false
theorem secsFrom_at {l : List S88} {dd : List Bool} {ss : List S50} : ∀ (d i : Nat), secsFrom l dd ss d i = true → ∀ j, i ≤ j → j < i + d → secOk l dd (j : Int) (rd_T50 ss (j : Int)) = true := by
  intro d
  induction d with
  | zero => intro i h j h1 h2; omega
  | succ d ih =>
    intro i h j h1 h2
    simp only [secsFrom, Bool.and_eq_true] at h
    by_cases e : j = i
    · subst e; exact h.1
    · exact ih (i + 1) h.2 j (by omega) (by omega)
theorem secsFrom_of {l : List S88} {dd : List Bool} {ss : List S50} : ∀ (d i : Nat), (∀ j, i ≤ j → j < i + d → secOk l dd (j : Int) (rd_T50 ss (j : Int)) = true) → secsFrom l dd ss d i = true := by
  intro d
  induction d with
  | zero => intro i h; rfl
  | succ d ih =>
    intro i h
    simp only [secsFrom, Bool.and_eq_true]
    exact ⟨h i (Nat.le_refl _) (by omega), ih (i + 1) (fun j h1 h2 => h j (by omega) (by omega))⟩
theorem stateOk_of {n : Int} {l : List S88} {ok : Bool} {ss : List S50} {dd : List Bool} (h : stateOk n l ok ss dd = true) : layoutOk n l = 0 ∧ ok = true ∧ (ss.length : Int) = n ∧ dd.length = l.length ∧ ∀ j, j < ss.length → secOk l dd (j : Int) (rd_T50 ss (j : Int)) = true := by
  simp only [stateOk, Bool.and_eq_true, decide_eq_true_eq] at h
  exact ⟨h.1.1.1.1, h.1.1.1.2, h.1.1.2, h.1.2, fun j hj => secsFrom_at _ 0 h.2 j (by omega) (by omega)⟩
theorem stateOk_mk {n : Int} {l : List S88} {ok : Bool} {ss : List S50} {dd : List Bool} (h1 : layoutOk n l = 0) (h2 : ok = true) (h3 : (ss.length : Int) = n) (h4 : dd.length = l.length) (h5 : ∀ j, j < ss.length → secOk l dd (j : Int) (rd_T50 ss (j : Int)) = true) : stateOk n l ok ss dd = true := by
  simp only [stateOk, Bool.and_eq_true, decide_eq_true_eq]
  exact ⟨⟨⟨⟨h1, h2⟩, h3⟩, h4⟩, secsFrom_of _ 0 (fun j _ hj => h5 j (by omega))⟩
theorem secOk_told {l : List S88} {dd : List Bool} {s : Int} {x : S50} (h : secOk l dd s x = true) : x.f0 = toldC l dd s x := by
  simp only [secOk, Bool.and_eq_true, decide_eq_true_eq] at h
  exact h.1.2
theorem secOk_range {l : List S88} {dd : List Bool} {s : Int} {x : S50} (h : secOk l dd s x = true) : -1000000 ≤ x.f1 ∧ x.f1 ≤ 1000000 ∧ -1 ≤ x.f4 ∧ x.f4 ≤ 1 := by
  simp only [secOk, secRange, Bool.and_eq_true, decide_eq_true_eq] at h
  exact ⟨h.1.1.1.1.1, h.1.1.1.1.2, h.1.1.1.2, h.1.1.2⟩
theorem rd50_get (ss : List S50) (i : Nat) (h : i < ss.length) : rd_T50 ss (i : Int) = ss[i] := by simp [rd_T50, h]
theorem retold_same {l : List S88} {dd : List Bool} {ss : List S50} (h : ∀ j, j < ss.length → secOk l dd (j : Int) (rd_T50 ss (j : Int)) = true) : retold l dd ss = ss := by
  apply List.ext_getElem
  · exact retold_length _ _ _
  · intro i h1 h2
    simp only [retold, retoldTo, List.getElem_mapIdx, if_pos h2]
    have e := secOk_told (h i h2)
    rw [rd50_get ss i h2] at e
    unfold tellS
    rw [← e]
def midSecs2 (l : List S88) (ss : List S50) (dd : List Bool) (op of dir : Int) : List S50 := if doCode l ss dd op of = 0 then midSecs l ss op of dir else ss
theorem midSecs2_length (l : List S88) (ss : List S50) (dd : List Bool) (op of dir : Int) : (midSecs2 l ss dd op of dir).length = ss.length := by
  unfold midSecs2; split
  · exact midSecs_length _ _ _ _ _
  · rfl
theorem retold_mid {l : List S88} {dd : List Bool} {ss : List S50} {op of dir : Int} (h : ∀ j, j < ss.length → secOk l dd (j : Int) (rd_T50 ss (j : Int)) = true) : retold l (doDead l ss dd op of) (midSecs2 l ss dd op of dir) = doSecs l ss dd op of dir := by
  unfold doDead midSecs2 doSecs
  by_cases hc : doCode l ss dd op of = 0
  · rw [if_pos hc, if_pos hc, if_pos hc]
  · rw [if_neg hc, if_neg hc, if_neg hc, retold_same h]
theorem specCopy_l1 (b : Bool) (ss : List S50) (dd : List Bool) (hd : dd.length ≤ 1048576) (d : Nat) : ∀ i : Nat, i + d = dd.length → Ev (fun k => spec_l2copy.l1 k dd (dd.length : Int) (i : Int) b ss (dd.take i)) (b, ss, dd) := by
  induction d with
  | zero =>
    intro i hi
    refine Ev.step1 fun k => ?_
    simp only [spec_l2copy.l1]
    rw [if_neg (by omega), List.take_of_length_le (by omega)]
  | succ d ih =>
    intro i hi
    have hlt : i < dd.length := by omega
    have hr : rdOf false dd (i : Int) = dd[i] := by simp [rdOf, hlt]
    refine Ev.step (fun k => ?_) (ih (i + 1) (by omega))
    simp only [spec_l2copy.l1, hr, wrap_succ (show i < 9223372036854775807 by omega)]
    rw [if_pos (by omega), if_pos (by omega), if_pos (by omega), if_pos (by simp; omega), List.take_succ_eq_append_getElem hlt]
theorem specCopy_l0 (b : Bool) (ss : List S50) (dd : List Bool) (hs : ss.length ≤ 1048576) (hd : dd.length ≤ 1048576) (d : Nat) : ∀ i : Nat, i + d = ss.length → Ev (fun k => spec_l2copy.l0 k ss (ss.length : Int) (i : Int) b ss dd b (ss.take i)) (b, ss, dd) := by
  induction d with
  | zero =>
    intro i hi
    refine Ev.step (fun k => ?_) (specCopy_l1 b ss dd hd dd.length 0 (by omega))
    simp only [spec_l2copy.l0]
    rw [if_neg (by omega), List.take_of_length_le (by omega)]
    rfl
  | succ d ih =>
    intro i hi
    have hlt : i < ss.length := by omega
    refine Ev.step (fun k => ?_) (ih (i + 1) (by omega))
    simp only [spec_l2copy.l0, rd50_get ss i hlt, wrap_succ (show i < 9223372036854775807 by omega)]
    rw [if_pos (by omega), if_pos (by omega), if_pos (by omega), if_pos (by simp; omega), List.take_succ_eq_append_getElem hlt]
theorem specCopy_ev (b : Bool) (ss : List S50) (dd : List Bool) (hs : ss.length ≤ 1048576) (hd : dd.length ≤ 1048576) : Ev (fun k => spec_l2copy.f k b ss dd) (b, ss, dd) := by
  unfold spec_l2copy.f
  exact specCopy_l0 b ss dd hs hd ss.length 0 (by omega)
theorem copy_is {b : Bool} {A1 : Option Addr} {c1 : Nat} {ss : List S50} {A2 : Option Addr} {c2 : Nat} {dd : List Bool} {w : World} (hr1 : Kd.C k50 w A1 ss.length ss) (hc1 : ss.length ≤ c1) (hr2 : Kd.C Kd.bool w A2 dd.length dd) (hc2 : dd.length ≤ c2) (hs : ss.length ≤ 1048576) (hd : dd.length ≤ 1048576) :
    Calls Try.prog 93 #[.agg #[.bool b, .slice A1 ss.length c1, .slice A2 dd.length c2]] w fun e w' => ∃ v1_ v2_ : Value, e = .returned (.agg #[.bool b, v1_, v2_]) ∧ Kd.R k50 50 w' w.heap.size (fun _ => True) v1_ ss ∧ Kd.R Kd.bool 4 w' w.heap.size (fun _ => True) v2_ dd ∧ Below w.heap.size w w' := by
  obtain ⟨k, h⟩ := (specCopy_ev b ss dd hs hd).rounds
  exact spec_l2copy.calls k b A1 c1 ss A2 c2 dd b ss dd w hr1 hc1 hr2 hc2 h
end Go.Proofs.Ytpdnabhpkdchjaa.P
namespace Go.Proofs.Ytpdnabhpkdchjaa.P
open Go.RowKit Go.Proofs.YtpdnabhpkdchjaaW.PrintWords Go.Proofs.YtpdnabhpkdchjaaW.PrintLast Go.Proofs.YtpdnabhpkdchjaaW.PrintMore
set_option linter.unusedVariables false
def runStep (n : Int) (l : List S88) (s : S46) (e : S56) : S48 :=
  if eventOk n l e.f0 e.f1 e.f2 = true then ⟨doCode l s.f1 s.f2 e.f0 e.f1, ⟨true, doSecs l s.f1 s.f2 e.f0 e.f1 e.f2, doDead l s.f1 s.f2 e.f0 e.f1⟩⟩ else ⟨1, ⟨true, s.f1, s.f2⟩⟩
def st0 (n : Int) (l : List S88) : S46 := ⟨true, List.replicate n.toNat z50, List.replicate l.length false⟩
def stAt (n : Int) (l : List S88) (es : List S56) (k : Nat) : S46 := (es.take k).foldl (fun s e => (runStep n l s e).f1) (st0 n l)
def runTo (n : Int) (l : List S88) (es : List S56) (k : Nat) : List S48 := (List.range k).map fun j => runStep n l (stAt n l es j) (rd_T56 es (j : Int))
def run (n : Int) (l : List S88) (es : List S56) : List S48 := if layoutOk n l = 0 ∧ es.length ≤ 2000 then runTo n l es es.length else []
theorem runTo_length (n : Int) (l : List S88) (es : List S56) (k : Nat) : (runTo n l es k).length = k := by simp [runTo]
theorem runTo_succ (n : Int) (l : List S88) (es : List S56) (k : Nat) : runTo n l es (k + 1) = runTo n l es k ++ [runStep n l (stAt n l es k) (rd_T56 es (k : Int))] := by
  simp [runTo, List.range_succ]
theorem stAt_succ (n : Int) (l : List S88) (es : List S56) (k : Nat) (h : k < es.length) : stAt n l es (k + 1) = (runStep n l (stAt n l es k) (rd_T56 es (k : Int))).f1 := by
  rw [stAt, List.take_succ_eq_append_getElem h, List.foldl_append, rd56 es k h]
  rfl
theorem stAt_zero (n : Int) (l : List S88) (es : List S56) : stAt n l es 0 = st0 n l := by simp [stAt]
theorem runStep_len (n : Int) (l : List S88) (s : S46) (e : S56) : (runStep n l s e).f1.f1.length = s.f1.length ∧ (runStep n l s e).f1.f2.length = s.f2.length ∧ (runStep n l s e).f1.f0 = true := by
  unfold runStep
  split
  · exact ⟨doSecs_length _ _ _ _ _ _, doDead_length _ _ _ _ _, rfl⟩
  · exact ⟨rfl, rfl, rfl⟩
theorem stAt_len (n : Int) (l : List S88) (es : List S56) (k : Nat) : (stAt n l es k).f1.length = n.toNat ∧ (stAt n l es k).f2.length = l.length ∧ (stAt n l es k).f0 = true := by
  unfold stAt
  have h : ∀ (es : List S56) (s : S46), s.f1.length = n.toNat ∧ s.f2.length = l.length ∧ s.f0 = true → (es.foldl (fun s e => (runStep n l s e).f1) s).f1.length = n.toNat ∧ (es.foldl (fun s e => (runStep n l s e).f1) s).f2.length = l.length ∧ (es.foldl (fun s e => (runStep n l s e).f1) s).f0 = true := by
    intro es
    induction es with
    | nil => intro s h; exact h
    | cons e es ih =>
      intro s h
      have := runStep_len n l s e
      exact ih _ ⟨by rw [this.1]; exact h.1, by rw [this.2.1]; exact h.2.1, this.2.2⟩
  exact h _ _ ⟨by simp [st0], by simp [st0], rfl⟩
def secFine (l : List S88) (dd : List Bool) (s : Int) (x : S50) : Bool := secRange x && secRest (deadAt l dd s) x
theorem fine_iff (l : List S88) (dd : List Bool) (s : Int) (x : S50) : secFine l dd s x = true ↔ (-1000000 ≤ x.f1 ∧ x.f1 ≤ 1000000 ∧ -1 ≤ x.f4 ∧ x.f4 ≤ 1) ∧ ((x.f1 < 0 ∨ deadAt l dd s = true) → x.f2 = true) ∧ (x.f3 = true ∧ x.f1 = 0 ∧ x.f4 = -1 → x.f2 = true) := by
  simp only [secFine, secRange, secRest, Bool.and_eq_true, decide_eq_true_eq, Bool.not_eq_true', Bool.and_eq_false_iff, Bool.or_eq_false_iff, Bool.not_eq_false', decide_eq_false_iff_not]
  cases x.f2 <;> cases x.f3 <;> cases deadAt l dd s <;> simp <;> omega
theorem ok_iff (l : List S88) (dd : List Bool) (s : Int) (x : S50) : secOk l dd s x = true ↔ x.f0 = toldC l dd s x ∧ secFine l dd s x = true := by
  simp only [secOk, secFine, Bool.and_eq_true, decide_eq_true_eq]
  exact ⟨fun h => ⟨h.1.2, h.1.1, h.2⟩, fun h => ⟨⟨h.2.1, h.1⟩, h.2.2⟩⟩
theorem tell_ok {l : List S88} {dd : List Bool} {i : Nat} {x : S50} (h : secFine l dd (i : Int) x = true) : secOk l dd (i : Int) (tellS l dd i x) = true := by
  rw [ok_iff]
  exact ⟨rfl, h⟩
theorem retold_get (l : List S88) (dd : List Bool) (ss : List S50) (i : Nat) (h : i < ss.length) : rd_T50 (retold l dd ss) (i : Int) = tellS l dd i (rd_T50 ss (i : Int)) := by
  simp [rd_T50, retold, retoldTo, h]
theorem retold_fine {l : List S88} {dd : List Bool} {ss : List S50} (h : ∀ j, j < ss.length → secFine l dd (j : Int) (rd_T50 ss (j : Int)) = true) : ∀ j, j < (retold l dd ss).length → secOk l dd (j : Int) (rd_T50 (retold l dd ss) (j : Int)) = true := by
  intro j hj
  rw [retold_length] at hj
  rw [retold_get l dd ss j hj]
  exact tell_ok (h j hj)
theorem count_fine {l : List S88} {dd : List Bool} {s : Int} {x : S50} {b : Int} (hb : b = 1 ∨ b = -1) (h : secFine l dd s x = true) : secFine l dd s (countS x b) = true := by
  rw [fine_iff] at h ⊢
  obtain ⟨⟨h1, h2, h3, h4⟩, h5, h6⟩ := h
  have hc : -1000000 ≤ cntN x b ∧ cntN x b ≤ 1000000 := by
    unfold cntN
    split
    · rename_i h; exact h
    · exact ⟨h1, h2⟩
  simp only [countS]
  refine ⟨⟨hc.1, hc.2, by omega, by omega⟩, fun h => ?_, fun h => ?_⟩
  · rcases h with h | h
    · rw [decide_eq_true h, Bool.or_true]
    · rw [h5 (.inr h), Bool.true_or]
  · obtain ⟨k1, k2, k3⟩ := h
    rw [k2, k3] at k1
    simp at k1
theorem addS_get (ss : List S50) (s b : Int) (j : Nat) (hj : j < ss.length) : rd_T50 (addS ss s b) (j : Int) = if s = (j : Int) then countS (rd_T50 ss (j : Int)) b else rd_T50 ss (j : Int) := by
  unfold addS
  by_cases h : s < 0
  · rw [if_pos h, if_neg (by omega)]
  · rw [if_neg h]
    by_cases e : s = (j : Int)
    · subst e
      simp [rd_T50, hj]
    · have : s.toNat ≠ j := by omega
      rw [if_neg e]
      simp [rd_T50, List.getElem?_set_ne this]
theorem loseAt_get (ss : List S50) (s : Int) (j : Nat) (hj : j < ss.length) : rd_T50 (loseAt ss s) (j : Int) = if s = (j : Int) then loseS (rd_T50 ss (j : Int)) else rd_T50 ss (j : Int) := by
  unfold loseAt
  by_cases h : s < 0
  · rw [if_pos h, if_neg (by omega)]
  · rw [if_neg h]
    by_cases e : s = (j : Int)
    · subst e
      simp [rd_T50, hj]
    · have : s.toNat ≠ j := by omega
      rw [if_neg e]
      simp [rd_T50, List.getElem?_set_ne this]
theorem add_fine {l : List S88} {dd : List Bool} {ss : List S50} {s b : Int} (hb : b = 1 ∨ b = -1) (h : ∀ j, j < ss.length → secFine l dd (j : Int) (rd_T50 ss (j : Int)) = true) : ∀ j, j < (addS ss s b).length → secFine l dd (j : Int) (rd_T50 (addS ss s b) (j : Int)) = true := by
  intro j hj
  rw [addS_length] at hj
  rw [addS_get ss s b j hj]
  split
  · exact count_fine hb (h j hj)
  · exact h j hj
theorem deadFrom_mono {l : List S88} {dd dd' : List Bool} {s : Int} (h : ∀ i : Nat, rdOf false dd' (i : Int) = true → hits s (rd_T88 l (i : Int)) = true → rdOf false dd (i : Int) = true) : ∀ d i, deadFrom l dd' s d i = true → deadFrom l dd s d i = true := by
  intro d
  induction d with
  | zero => intro i hd; exact hd
  | succ d ih =>
    intro i hd
    simp only [deadFrom, Bool.or_eq_true, Bool.and_eq_true] at hd ⊢
    rcases hd with ⟨h1, h2⟩ | h1
    · exact .inl ⟨h i h1 h2, h2⟩
    · exact .inr (ih _ h1)
theorem rdOf_set (dd : List Bool) (k i : Nat) (b : Bool) : rdOf false (dd.set k b) (i : Int) = if k = i ∧ i < dd.length then b else rdOf false dd (i : Int) := by
  unfold rdOf
  simp only [Int.toNat_natCast, List.getD_eq_getElem?_getD, List.getElem?_set]
  by_cases e : k = i
  · subst e
    by_cases h : k < dd.length
    · simp [h]
    · simp [h]
  · simp [e]
theorem dead_less {l : List S88} {dd : List Bool} {s : Int} {k : Nat} (h : deadAt l (dd.set k false) s = true) : deadAt l dd s = true := by
  refine deadFrom_mono (fun i h1 _ => ?_) _ _ h
  rw [rdOf_set] at h1
  split at h1
  · cases h1
  · exact h1
theorem dead_more {l : List S88} {dd : List Bool} {s : Int} {k : Nat} (h : deadAt l (dd.set k true) s = true) (hn : hits s (rd_T88 l (k : Int)) = false) : deadAt l dd s = true := by
  refine deadFrom_mono (fun i h1 h2 => ?_) _ _ h
  rw [rdOf_set] at h1
  split at h1
  · rename_i e
    rw [← e.1, hn] at h2
    cases h2
  · exact h1
theorem lose_fine {l : List S88} {dd dd' : List Bool} {s : Int} {x : S50} (h : secFine l dd s x = true) : secFine l dd' s (loseS x) = true := by
  rw [fine_iff] at h ⊢
  exact ⟨h.1, fun _ => rfl, fun _ => rfl⟩
theorem fine_dead {l : List S88} {dd dd' : List Bool} {s : Int} {x : S50} (hd : deadAt l dd' s = true → deadAt l dd s = true) (h : secFine l dd s x = true) : secFine l dd' s x = true := by
  rw [fine_iff] at h ⊢
  exact ⟨h.1, fun k => h.2.1 (k.imp id hd), h.2.2⟩
theorem do_fine {n : Int} {l : List S88} {ss : List S50} {dd : List Bool} {op of dir : Int} (hl : layoutOk n l = 0) (hd : dd.length = l.length) (h : ∀ j, j < ss.length → secFine l dd (j : Int) (rd_T50 ss (j : Int)) = true) (hev : eventOk n l op of dir = true) (hc : doCode l ss dd op of = 0) :
    ∀ j, j < (midSecs l ss op of dir).length → secFine l (midDead dd op of) (j : Int) (rd_T50 (midSecs l ss op of dir) (j : Int)) = true := by
  have key : ((op = 1 ∨ op = 2) ∧ 0 ≤ of ∧ of < (l.length : Int)) ∨ ((op = 3 ∨ op = 4) ∧ 0 ≤ of ∧ of < (l.length : Int)) ∨ (op = 5 ∧ 0 ≤ of ∧ of < n) := by
    unfold eventOk at hev
    rw [if_pos hl] at hev
    split at hev
    · rename_i h1; simp at hev; exact .inl ⟨h1, hev.1.1, hev.1.2⟩
    · split at hev
      · rename_i h1; simp at hev; exact .inr (.inl ⟨h1, hev.1.1, hev.1.2⟩)
      · split at hev
        · rename_i h1; simp at hev; exact .inr (.inr ⟨h1, hev.1.1, hev.1.2⟩)
        · cases hev
  rcases key with ⟨rfl | rfl, o0, o1⟩ | ⟨rfl | rfl, o0, o1⟩ | ⟨rfl, o0, o1⟩
  · have e1 : midSecs l ss 1 of dir = addS (addS ss (if dir = -1 then (rd_T88 l of).f1 else (rd_T88 l of).f0) (-1)) (if dir = -1 then (rd_T88 l of).f0 else (rd_T88 l of).f1) 1 := by simp [midSecs]
    have e2 : midDead dd 1 of = dd := by simp [midDead]
    rw [e1, e2]
    exact add_fine (.inl rfl) (add_fine (.inr rfl) h)
  · have e1 : midSecs l ss 2 of dir = addS ss (if dir = -1 then (rd_T88 l of).f0 else (rd_T88 l of).f1) 1 := by simp [midSecs]
    have e2 : midDead dd 2 of = dd := by simp [midDead]
    rw [e1, e2]
    exact add_fine (.inl rfl) h
  · have e1 : midSecs l ss 3 of dir = loseAt (loseAt ss (rd_T88 l of).f0) (rd_T88 l of).f1 := by simp [midSecs]
    have e2 : midDead dd 3 of = dd.set of.toNat true := by simp [midDead]
    rw [e1, e2]
    intro j hj
    rw [loseAt_length, loseAt_length] at hj
    rw [loseAt_get _ _ _ (by rw [loseAt_length]; exact hj), loseAt_get _ _ _ hj]
    by_cases f1 : (rd_T88 l of).f1 = (j : Int)
    · rw [if_pos f1]
      split
      · exact lose_fine (lose_fine (dd' := dd) (h j hj))
      · exact lose_fine (h j hj)
    · rw [if_neg f1]
      by_cases f0 : (rd_T88 l of).f0 = (j : Int)
      · rw [if_pos f0]; exact lose_fine (h j hj)
      · rw [if_neg f0]
        refine fine_dead (fun hx => dead_more hx ?_) (h j hj)
        rw [show ((of.toNat : Nat) : Int) = of by omega]
        simp [hits, f0, f1]
  · have e1 : midSecs l ss 4 of dir = ss := by simp [midSecs]
    have e2 : midDead dd 4 of = dd.set of.toNat false := by simp [midDead]
    rw [e1, e2]
    intro j hj
    exact fine_dead dead_less (h j hj)
  · have e1 : midSecs l ss 5 of dir = ss.set of.toNat ⟨0, 0, false, true, 0⟩ := by simp [midSecs]
    have e2 : midDead dd 5 of = dd := by simp [midDead]
    rw [e1, e2]
    intro j hj
    rw [List.length_set] at hj
    by_cases e : of.toNat = j
    · have hdd : deadAt l dd of = false := by
        cases hx : deadAt l dd of with
        | false => rfl
        | true =>
          rw [doCode, if_neg (by decide), if_pos rfl, if_pos hx] at hc
          exact absurd hc (by decide)
      have e3 : ((j : Nat) : Int) = of := by omega
      rw [show rd_T50 (ss.set of.toNat ⟨0, 0, false, true, 0⟩) (j : Int) = ⟨0, 0, false, true, 0⟩ by subst e; rw [rd_T50, Int.toNat_natCast]; simp [hj], e3, fine_iff]
      refine ⟨by simp, fun h => ?_, fun h => by simp at h⟩
      rw [hdd] at h
      simp at h
    · rw [show rd_T50 (ss.set of.toNat ⟨0, 0, false, true, 0⟩) (j : Int) = rd_T50 ss (j : Int) by simp [rd_T50, List.getElem?_set_ne e]]
      exact h j hj
theorem do_ok {n : Int} {l : List S88} {ss : List S50} {dd : List Bool} {op of dir : Int} (hl : layoutOk n l = 0) (hd : dd.length = l.length) (h : ∀ j, j < ss.length → secOk l dd (j : Int) (rd_T50 ss (j : Int)) = true) (hev : eventOk n l op of dir = true) :
    ∀ j, j < (doSecs l ss dd op of dir).length → secOk l (doDead l ss dd op of) (j : Int) (rd_T50 (doSecs l ss dd op of dir) (j : Int)) = true := by
  by_cases hc : doCode l ss dd op of = 0
  · unfold doSecs doDead
    rw [if_pos hc, if_pos hc]
    exact retold_fine (do_fine hl hd (fun j hj => ((ok_iff _ _ _ _).1 (h j hj)).2) hev hc)
  · unfold doSecs doDead
    rw [if_neg hc, if_neg hc]
    exact h
theorem step_ok {n : Int} {l : List S88} {s : S46} {e : S56} (h : stateOk n l s.f0 s.f1 s.f2 = true) : stateOk n l (runStep n l s e).f1.f0 (runStep n l s e).f1.f1 (runStep n l s e).f1.f2 = true := by
  obtain ⟨hl, ho, hn, hd, hsec⟩ := stateOk_of h
  unfold runStep
  split
  · rename_i hev
    exact stateOk_mk hl rfl (by rw [doSecs_length]; exact hn) (by rw [doDead_length]; exact hd) (do_ok hl hd hsec hev)
  · exact stateOk_mk hl rfl hn hd hsec
theorem anyFalse (l : List S88) (m : Nat) (s : Int) : deadAt l (List.replicate m false) s = false := by
  have h : ∀ d i, deadFrom l (List.replicate m false) s d i = false := by
    intro d
    induction d with
    | zero => intro i; rfl
    | succ d ih =>
      intro i
      have hr : rdOf false (List.replicate m false) (i : Int) = false := by
        simp only [rdOf, List.getD_eq_getElem?_getD, List.getElem?_replicate]; split <;> rfl
      simp only [deadFrom, hr, ih, Bool.false_and, Bool.or_self]
  exact h _ _
theorem st0_ok {n : Int} {l : List S88} (hl : layoutOk n l = 0) : stateOk n l (st0 n l).f0 (st0 n l).f1 (st0 n l).f2 = true := by
  have hn := lay_n hl
  refine stateOk_mk hl rfl (by simp [st0]; omega) (by simp [st0]) (fun j hj => ?_)
  have hz : rd_T50 (List.replicate n.toNat z50) (j : Int) = z50 := by
    simp only [rd_T50, List.getD_eq_getElem?_getD, List.getElem?_replicate]; split <;> rfl
  show secOk l (List.replicate l.length false) (j : Int) (rd_T50 (List.replicate n.toNat z50) (j : Int)) = true
  rw [hz, ok_iff, fine_iff, toldC, anyFalse]
  simp [z50]
theorem stAt_ok {n : Int} {l : List S88} (hl : layoutOk n l = 0) (es : List S56) (k : Nat) : stateOk n l (stAt n l es k).f0 (stAt n l es k).f1 (stAt n l es k).f2 = true := by
  unfold stAt
  have h : ∀ (es : List S56) (s : S46), stateOk n l s.f0 s.f1 s.f2 = true → stateOk n l (es.foldl (fun s e => (runStep n l s e).f1) s).f0 (es.foldl (fun s e => (runStep n l s e).f1) s).f1 (es.foldl (fun s e => (runStep n l s e).f1) s).f2 = true := by
    intro es
    induction es with
    | nil => intro s h; exact h
    | cons e es ih => intro s h; exact ih _ (step_ok h)
  exact h _ _ (st0_ok hl)
end Go.Proofs.Ytpdnabhpkdchjaa.P
namespace Go.Proofs.Ytpdnabhpkdchjaa.P
open Go.RowKit Go.Proofs.YtpdnabhpkdchjaaW.PrintWords Go.Proofs.YtpdnabhpkdchjaaW.PrintLast
set_option linter.unusedVariables false
set_option linter.unusedSimpArgs false
def nonneg (row : List Int) : Bool := row.all fun x => decide (0 ≤ x)
def honestAt (n : Int) (l : List S88) (es : List S56) (k : Nat) : Bool :=
  eventOk n l (rd_T56 es k).f0 (rd_T56 es k).f1 (rd_T56 es k).f2 && !(decide ((rd_T56 es k).f0 = 5) && !(decide (rd (truthAt n l es (k + 1)) (rd_T56 es k).f1 = 0))) && nonneg (truthAt n l es (k + 1))
def honestFrom (n : Int) (l : List S88) (es : List S56) : Nat → Nat → Bool
  | 0, _ => true
  | d + 1, i => honestAt n l es i && honestFrom n l es d (i + 1)
def honest (n : Int) (l : List S88) (es : List S56) : Bool := decide (layoutOk n l = 0) && decide (es.length ≤ 2000) && honestFrom n l es es.length 0
section
variable {n : Int} {l : List S88} {es : List S56}
theorem rd_all {row : List Int} (h : nonneg row = true) (j : Nat) (hj : j < row.length) : ¬ rd row (j : Int) < 0 := by
  have h1 := List.all_eq_true.1 h row[j] (List.getElem_mem hj)
  have h2 : rd row (j : Int) = row[j] := by simp [rd, hj]
  rw [h2]
  simpa using h1
end
end Go.Proofs.Ytpdnabhpkdchjaa.P
namespace Go.Proofs.Ytpdnabhpkdchjaa.P
open Go.RowKit Go.Proofs.YtpdnabhpkdchjaaW.PrintWords Go.Proofs.YtpdnabhpkdchjaaW.PrintLast Go.Proofs.YtpdnabhpkdchjaaW.PrintMore
set_option linter.unusedVariables false
set_option linter.unusedSimpArgs false
section
variable {code : List Int} {n : Int} {l : List S88} {ho : Bool}
theorem truthAt_app (es : List S56) (e : S56) (k : Nat) (h : k ≤ es.length) : truthAt n l (es ++ [e]) k = truthAt n l es k := by
  rw [truthAt, truthAt, List.take_append_of_le_length h]
theorem truthAt_last (es : List S56) (e : S56) : truthAt n l (es ++ [e]) (es ++ [e]).length = tstep n l (truthAt n l es es.length) e := by
  rw [truthAt, truthAt, List.take_length, List.take_length, List.foldl_append]
  rfl
theorem rd_set (row : List Int) (i j : Nat) (v : Int) (hi : i < row.length) : rd (row.set i v) (j : Int) = if i = j then v else rd row (j : Int) := by
  simp only [rd, Int.toNat_natCast, List.getD_eq_getElem?_getD, List.getElem?_set]
  by_cases e : i = j
  · subst e; simp [hi]
  · simp [e]
theorem nonneg_of {row : List Int} (h : ∀ j : Nat, j < row.length → 0 ≤ rd row (j : Int)) : nonneg row = true := by
  unfold nonneg
  refine List.all_eq_true.2 fun x hx => ?_
  obtain ⟨j, hj, rfl⟩ := List.mem_iff_getElem.1 hx
  have := h j hj
  rw [show rd row (j : Int) = row[j] by simp [rd, hj]] at this
  simpa using this
def mvAt (f t : Int) (j : Nat) (x : Int) : Int := if f = (j : Int) then x - 1 else if t = (j : Int) then x + 1 else x
theorem rd_upd (row : List Int) (f v : Int) (hf : f < row.length) (j : Nat) : rd (if 0 ≤ f then row.set f.toNat v else row) (j : Int) = if f = (j : Int) then v else rd row (j : Int) := by
  by_cases h0 : 0 ≤ f
  · obtain ⟨a, rfl⟩ := Int.eq_ofNat_of_zero_le h0
    rw [if_pos h0, Int.toNat_natCast, rd_set row a j v (by omega)]
    by_cases e : a = j
    · rw [if_pos e, if_pos (by omega)]
    · rw [if_neg e, if_neg (by omega)]
  · rw [if_neg h0, if_neg (by omega)]
theorem upd_length (row : List Int) (f v : Int) : (if 0 ≤ f then row.set f.toNat v else row).length = row.length := by split <;> simp
theorem mv_rd (row : List Int) (f t : Int) (hf : f < row.length) (ht : t < row.length) (hne : f ≠ t) (hb : ∀ j : Nat, -1000000 ≤ rd row (j : Int) ∧ rd row (j : Int) ≤ 1000000) (hf0 : -1 ≤ f) (ht0 : -1 ≤ t) (j : Nat) : rd (mv row f t) (j : Int) = mvAt f t j (rd row (j : Int)) := by
  have hbj := hb j
  unfold mv mvAt
  simp only []
  rw [rd_upd _ t _ (by rw [upd_length]; exact ht) j]
  by_cases et : t = (j : Int)
  · have hfj : ¬ f = (j : Int) := by omega
    rw [if_pos et, et, rd_upd row f _ hf j, if_neg hfj, if_neg hfj, if_pos rfl, wrap_id (by omega) (by omega)]
  · rw [if_neg et, rd_upd row f _ hf j, if_neg et]
    by_cases ef : f = (j : Int)
    · rw [if_pos ef, if_pos ef, ef, wrap_id (by omega) (by omega)]
    · rw [if_neg ef, if_neg ef]
theorem rows_ext {r s : List Int} (hl : r.length = s.length) (h : ∀ j : Nat, j < r.length → rd r (j : Int) = rd s (j : Int)) : r = s := by
  apply List.ext_getElem hl
  intro i h1 h2
  have := h i h1
  simpa [rd, h1, h2] using this
theorem axle_rd (c : S88) (d : Int) (row : List Int) (hd : d = 1 ∨ d = -1) (hf : c.f0 < row.length) (ht : c.f1 < row.length) (hne : c.f0 ≠ c.f1) (hb : ∀ j : Nat, -1000000 ≤ rd row (j : Int) ∧ rd row (j : Int) ≤ 1000000) (hf0 : -1 ≤ c.f0) (ht0 : -1 ≤ c.f1) (j : Nat) :
    rd (axle c d row) (j : Int) = mvAt (if d < 0 then c.f1 else c.f0) (if d < 0 then c.f0 else c.f1) j (rd row (j : Int)) := by
  have hbj := hb j
  have key : rd (axle c d row) (j : Int) = if c.f0 = (j : Int) then rd row (j : Int) - d else if c.f1 = (j : Int) then rd row (j : Int) + d else rd row (j : Int) := by
    unfold axle
    simp only []
    rw [rd_upd _ c.f1 _ (by rw [upd_length]; exact ht) j]
    by_cases et : c.f1 = (j : Int)
    · have hfj : ¬ c.f0 = (j : Int) := by omega
      rw [if_pos et, et, rd_upd row c.f0 _ hf j, if_neg hfj, if_neg hfj, if_pos rfl, wrap_id (by omega) (by omega)]
    · rw [if_neg et, rd_upd row c.f0 _ hf j, if_neg et]
      by_cases ef : c.f0 = (j : Int)
      · rw [if_pos ef, if_pos ef, ef, wrap_id (by omega) (by omega)]
      · rw [if_neg ef, if_neg ef]
  rw [key]
  unfold mvAt
  rcases hd with rfl | rfl
  · simp
  · simp only [show ((-1 : Int) < 0) from by decide, if_true]
    by_cases e0 : c.f0 = (j : Int)
    · rw [if_pos e0, if_neg (by omega), if_pos e0]; omega
    · rw [if_neg e0]
      by_cases e1 : c.f1 = (j : Int)
      · rw [if_pos e1, if_pos e1]; omega
      · rw [if_neg e1, if_neg e1, if_neg e0]
def HonP (n : Int) (l : List S88) (es : List S56) : Prop := ∀ k : Nat, k < es.length → ((rd_T56 es (k : Int)).f0 = 5 → rd (truthAt n l es k) (rd_T56 es (k : Int)).f1 = 0) ∧ nonneg (truthAt n l es (k + 1)) = true
theorem rd56_app_lt (es : List S56) (e : S56) (k : Nat) (h : k < es.length) : rd_T56 (es ++ [e]) (k : Int) = rd_T56 es (k : Int) := by
  rw [rd56 _ k (by simp; omega), rd56 _ k h, List.getElem_append_left h]
theorem rd56_app_eq (es : List S56) (e : S56) : rd_T56 (es ++ [e]) (es.length : Int) = e := by
  rw [rd56 _ es.length (by simp)]; simp
theorem HonP.app {es : List S56} {e : S56} (h : HonP n l es) (h5 : e.f0 = 5 → rd (truthAt n l es es.length) e.f1 = 0) (hn : nonneg (tstep n l (truthAt n l es es.length) e) = true) : HonP n l (es ++ [e]) := by
  intro k hk
  rw [List.length_append, List.length_singleton] at hk
  by_cases e1 : k < es.length
  · rw [rd56_app_lt es e k e1, truthAt_app es e k (by omega), truthAt_app es e (k + 1) (by omega)]
    exact h k e1
  · have : k = es.length := by omega
    subst this
    rw [rd56_app_eq, truthAt_app es e _ (Nat.le_refl _)]
    refine ⟨h5, ?_⟩
    have := truthAt_last (n := n) (l := l) es e
    rw [List.length_append, List.length_singleton] at this
    rw [this]
    exact hn
structure EvI (n : Int) (l : List S88) (ho : Bool) (s : EvP) : Prop where
  th : s.th = truthAt n l s.out s.out.length
  dead0 : -1 ≤ s.dead
  dead1 : s.dead < (l.length : Int)
  ok : ∀ e ∈ s.out, eventOk n l e.f0 e.f1 e.f2 = true
  bd : ∀ j : Nat, -(s.out.length : Int) ≤ rd s.th (j : Int) ∧ rd s.th (j : Int) ≤ (s.out.length : Int)
  hon : ho = true → HonP n l s.out ∧ nonneg s.th = true
theorem EvI.skip {s : EvP} (h : EvI n l ho s) (c : Int × Int) (d : Int) (h0 : -1 ≤ d) (h1 : d < (l.length : Int)) : EvI n l ho ⟨c, s.th, d, s.out⟩ := ⟨h.th, h0, h1, h.ok, h.bd, h.hon⟩
theorem mem_snoc {e x : S56} {es : List S56} (h : x ∈ es ++ [e]) : x ∈ es ∨ x = e := by simpa using h
theorem EvI.add {s : EvP} (h : EvI n l ho s) (c : Int × Int) (d : Int) (h0 : -1 ≤ d) (h1 : d < (l.length : Int)) (e : S56) (hok : eventOk n l e.f0 e.f1 e.f2 = true) (hne : e.f0 ≠ 1) (h5 : ho = true → e.f0 = 5 → rd s.th e.f1 = 0) :
    EvI n l ho ⟨c, s.th, d, s.out ++ [e]⟩ := by
  have ht : tstep n l s.th e = s.th := by
    unfold tstep isPass
    rw [decide_eq_false hne, Bool.and_false]; rfl
  have hl := truthAt_last (n := n) (l := l) s.out e
  rw [← h.th, ht] at hl
  refine ⟨hl.symm, h0, h1, fun x hx => ?_, fun j => ?_, fun hh => ?_⟩
  · rcases mem_snoc hx with hx | rfl
    · exact h.ok x hx
    · exact hok
  · have := h.bd j
    simp only [List.length_append, List.length_singleton]
    exact ⟨by omega, by omega⟩
  · obtain ⟨k1, k2⟩ := h.hon hh
    refine ⟨k1.app (fun q => by rw [← h.th]; exact h5 hh q) (by rw [← h.th, ht]; exact k2), k2⟩
theorem EvI.pass {s : EvP} (h : EvI n l ho s) (hl0 : layoutOk n l = 0) (c : Int × Int) (k d f t : Int) (hk0 : 0 ≤ k) (hk1 : k < (l.length : Int)) (hd : d = 1 ∨ d = -1) (hlen : s.out.length ≤ 1000)
    (hf : f = if d < 0 then (rd_T88 l k).f1 else (rd_T88 l k).f0) (ht : t = if d < 0 then (rd_T88 l k).f0 else (rd_T88 l k).f1) (hgo : ho = true → f < 0 ∨ 0 < rd s.th f) :
    EvI n l ho ⟨c, mv s.th f t, s.dead, s.out ++ [⟨1, k, d⟩]⟩ := by
  have hn := lay_n hl0
  have hx := lay_rd hl0 k hk0 hk1
  have hth : s.th.length = n.toNat := by rw [h.th, truthAt_length]
  have hok : eventOk n l 1 k d = true := by
    unfold eventOk
    rw [if_pos hl0, if_pos (Or.inl rfl), decide_eq_true hk0, decide_eq_true hk1]
    rcases hd with rfl | rfl <;> rfl
  have hbd : ∀ j : Nat, -1000000 ≤ rd s.th (j : Int) ∧ rd s.th (j : Int) ≤ 1000000 := fun j => by have := h.bd j; omega
  have hfr : -1 ≤ f ∧ f < n ∧ -1 ≤ t ∧ t < n ∧ f ≠ t := by
    rw [hf, ht]
    by_cases h2 : d < 0
    · simp only [if_pos h2]; omega
    · simp only [if_neg h2]; omega
  have hmv : ∀ j : Nat, rd (mv s.th f t) (j : Int) = mvAt f t j (rd s.th (j : Int)) := fun j => mv_rd s.th f t (by rw [hth]; omega) (by rw [hth]; omega) hfr.2.2.2.2 hbd hfr.1 hfr.2.2.1 j
  have hst : tstep n l s.th ⟨1, k, d⟩ = mv s.th f t := by
    unfold tstep isPass
    rw [hok, Bool.true_and, decide_eq_true rfl, if_pos rfl]
    refine rows_ext (by rw [axle_length, mv_length]) fun j hj => ?_
    rw [hmv j]
    show rd (axle (rd_T88 l k) d s.th) (j : Int) = _
    rw [axle_rd _ _ _ hd (by rw [hth]; omega) (by rw [hth]; omega) hx.2.2.2.2 hbd hx.1 hx.2.2.1, ← hf, ← ht]
  have hl := truthAt_last (n := n) (l := l) s.out ⟨1, k, d⟩
  rw [← h.th, hst] at hl
  refine ⟨hl.symm, h.dead0, h.dead1, fun x hx => ?_, fun j => ?_, fun hh => ?_⟩
  · rcases mem_snoc hx with hx | rfl
    · exact h.ok x hx
    · exact hok
  · have hb := h.bd j
    show -((s.out ++ [(⟨1, k, d⟩ : S56)]).length : Int) ≤ rd (mv s.th f t) (j : Int) ∧ _
    rw [hmv j]
    simp only [List.length_append, List.length_singleton, mvAt]
    split
    · exact ⟨by omega, by omega⟩
    · split
      · exact ⟨by omega, by omega⟩
      · exact ⟨by omega, by omega⟩
  · obtain ⟨k1, k2⟩ := h.hon hh
    have hnn : nonneg (mv s.th f t) = true := by
      refine nonneg_of fun j hj => ?_
      rw [mv_length] at hj
      rw [hmv j]
      have h0 := rd_all k2 j hj
      unfold mvAt
      split
      · rename_i e
        rcases hgo hh with h2 | h2
        · omega
        · rw [e] at h2; omega
      · split <;> omega
    exact ⟨k1.app (fun q => by exact absurd q (by show ¬ (1 : Int) = 5; decide)) (by rw [← h.th, hst]; exact hnn), hnn⟩
theorem dir_of {v : Int} (h0 : 0 ≤ v) (h1 : v < 2) : wrap64 (1 - wrap64 (2 * v)) = 1 ∨ wrap64 (1 - wrap64 (2 * v)) = -1 := by
  rw [wrap_id (x := 2 * v) (by omega) (by omega), wrap_id (by omega) (by omega)]
  omega
theorem ok12 (hl0 : layoutOk n l = 0) {op k d : Int} (ho : op = 1 ∨ op = 2) (h0 : 0 ≤ k) (h1 : k < (l.length : Int)) (hd : d = 1 ∨ d = -1) : eventOk n l op k d = true := by
  unfold eventOk
  rw [if_pos hl0, if_pos ho, decide_eq_true h0, decide_eq_true h1]
  rcases hd with rfl | rfl <;> rfl
theorem ok34 (hl0 : layoutOk n l = 0) {op k : Int} (ho : op = 3 ∨ op = 4) (h0 : 0 ≤ k) (h1 : k < (l.length : Int)) : eventOk n l op k 0 = true := by
  unfold eventOk
  rw [if_pos hl0, if_neg (by omega), if_pos ho, decide_eq_true h0, decide_eq_true h1]
  rfl
theorem ok5 (hl0 : layoutOk n l = 0) {k : Int} (h0 : 0 ≤ k) (h1 : k < n) : eventOk n l 5 k 0 = true := by
  unfold eventOk
  rw [if_pos hl0, if_neg (by omega), if_neg (by omega), if_pos rfl, decide_eq_true h0, decide_eq_true h1]
  rfl
theorem evAsk_ok {yes ho : Bool} {c : Int × Int} {m b : Int} (hc : CurOk code b c) (hb : b ≤ 2000000000) (hm : 0 < m) : CurOk code (b + 2) (evAsk code yes ho c m).2 ∧ (ho = true → (evAsk code yes ho c m).1 = true → yes = true) := by
  unfold evAsk
  obtain ⟨v, c', _, hp, _, _, hc'⟩ := pick_ok hc (by omega) hm
  cases yes with
  | true => exact ⟨hc.mono (by omega), fun _ _ => rfl⟩
  | false =>
    cases ho with
    | true => exact ⟨hc.mono (by omega), fun _ h => absurd h (by simp)⟩
    | false => simp only [hp]; exact ⟨hc', fun h => absurd h (by simp)⟩
theorem evStep_ok {s : EvP} {b : Int} (hl0 : layoutOk n l = 0) (hlp : 0 < l.length) (h : EvI n l ho s) (hc : CurOk code b s.c) (hb : b ≤ 1900000000) (hlen : s.out.length ≤ 1000) :
    EvI n l ho (evStep code n l ho s) ∧ CurOk code (b + 12) (evStep code n l ho s).c ∧ (evStep code n l ho s).out.length ≤ s.out.length + 1 := by
  have hn := lay_n hl0
  obtain ⟨k, c1, _, hk, k0, k1, hc1⟩ := pick_ok (m := (l.length : Int)) hc (by omega) (by omega)
  obtain ⟨a, c2, _, ha, a0, a1, hc2⟩ := pick_ok (m := 16) hc1 (by omega) (by omega)
  unfold evStep
  simp only [hk, ha]
  split
  · obtain ⟨v, c3, _, hv, v0, v1, hc3⟩ := pick_ok (m := 2) hc2 (by omega) (by omega)
    simp only [hv]
    exact ⟨h.add _ _ h.dead0 h.dead1 _ (ok12 hl0 (.inr rfl) k0 k1 (dir_of v0 v1)) (by show (2 : Int) ≠ 1; decide) (fun _ q => absurd q (by show (2 : Int) ≠ 5; decide)), hc3.mono (by omega), by simp⟩
  · split
    · exact ⟨h.add _ _ (by omega) k1 _ (ok34 hl0 (.inl rfl) k0 k1) (by show (3 : Int) ≠ 1; decide) (fun _ q => absurd q (by show (3 : Int) ≠ 5; decide)), hc2.mono (by omega), by simp⟩
    · split
      · refine ⟨h.add _ _ (by omega) (by omega) _ (ok34 hl0 (.inr rfl) ?_ ?_) (by show (4 : Int) ≠ 1; decide) (fun _ q => absurd q (by show (4 : Int) ≠ 5; decide)), hc2.mono (by omega), by simp⟩
        · show 0 ≤ (if 0 ≤ s.dead then s.dead else k)
          split
          · assumption
          · exact k0
        · show (if 0 ≤ s.dead then s.dead else k) < (l.length : Int)
          split
          · exact h.dead1
          · exact k1
      · split
        · unfold evReset
          obtain ⟨v, c3, _, hv, v0, v1, hc3⟩ := pick_ok (m := n) hc2 (by omega) (by omega)
          simp only [hv]
          have hq := evAsk_ok (yes := rd s.th v == 0) (ho := ho) (m := 4) hc3 (by omega) (by omega)
          generalize evAsk code (rd s.th v == 0) ho c3 4 = q at hq
          obtain ⟨yes, c4⟩ := q
          cases yes with
          | true =>
            exact ⟨h.add _ _ h.dead0 h.dead1 _ (ok5 hl0 v0 v1) (by show (5 : Int) ≠ 1; decide) (fun hh _ => by have := hq.2 hh rfl; show rd s.th v = 0; simpa using this), hq.1.mono (by omega), by simp⟩
          | false => exact ⟨h.skip _ _ h.dead0 h.dead1, hq.1.mono (by omega), by simp⟩
        · unfold evPass
          obtain ⟨v, c3, _, hv, v0, v1, hc3⟩ := pick_ok (m := 2) hc2 (by omega) (by omega)
          simp only [hv]
          obtain ⟨d, hd⟩ : ∃ d, d = wrap64 (1 - wrap64 (2 * v)) := ⟨_, rfl⟩
          have hdir := dir_of v0 v1
          rw [← hd] at hdir ⊢
          obtain ⟨f, hf⟩ : ∃ f, f = if d < 0 then (rd_T88 l k).f1 else (rd_T88 l k).f0 := ⟨_, rfl⟩
          obtain ⟨t, ht⟩ : ∃ t, t = if d < 0 then (rd_T88 l k).f0 else (rd_T88 l k).f1 := ⟨_, rfl⟩
          rw [← hf, ← ht]
          have hq := evAsk_ok (yes := decide (f < 0) || decide (0 < rd s.th f)) (ho := ho) (m := 8) hc3 (by omega) (by omega)
          generalize evAsk code (decide (f < 0) || decide (0 < rd s.th f)) ho c3 8 = q at hq
          obtain ⟨yes, c4⟩ := q
          cases yes with
          | true =>
            rw [if_pos rfl]
            exact ⟨h.pass hl0 _ k d f t k0 k1 hdir hlen hf ht (fun hh => by have := hq.2 hh rfl; simpa using this), hq.1.mono (by omega), by simp⟩
          | false =>
            rw [if_neg (by simp)]
            exact ⟨h.skip _ _ h.dead0 h.dead1, hq.1.mono (by omega), by simp⟩
theorem evLoop_ok (hl0 : layoutOk n l = 0) : ∀ (q : Nat) (s : EvP) (b : Int), EvI n l ho s → CurOk code b s.c → b + 12 * q ≤ 1900000000 → s.out.length + q ≤ 1000 →
    EvI n l ho (evLoop code n l ho q s) ∧ CurOk code (b + 12 * q) (evLoop code n l ho q s).c ∧ (evLoop code n l ho q s).out.length ≤ s.out.length + q := by
  have hn := lay_n hl0
  intro q
  induction q with
  | zero => intro s b h hc _ _; exact ⟨h, hc.mono (by omega), by simp [evLoop]⟩
  | succ q ih =>
    intro s b h hc hb hlen
    unfold evLoop
    by_cases hz : l.length = 0
    · obtain ⟨v, c3, _, hv, v0, v1, hc3⟩ := pick_ok (m := n) hc (by omega) (by omega)
      rw [if_pos hz]
      simp only [hv]
      refine ⟨h.add _ _ h.dead0 h.dead1 _ (ok5 hl0 v0 v1) (by show (5 : Int) ≠ 1; decide) (fun hh _ => ?_), hc3.mono (by omega), by simp⟩
      have hall : ∀ es : List S56, (∀ e ∈ es, eventOk n l e.f0 e.f1 e.f2 = true) → es.foldl (tstep n l) (row0 n) = row0 n := by
        intro es
        induction es with
        | nil => intro _; rfl
        | cons e es ih2 =>
          intro hes
          have he : isPass n l e = false := by
            cases hp : isPass n l e with
            | false => rfl
            | true => obtain ⟨_, p1, p2, _⟩ := isPass_of hp; omega
          rw [List.foldl_cons, show tstep n l (row0 n) e = row0 n by unfold tstep; rw [he]; rfl]
          exact ih2 (fun e he => hes e (List.mem_cons_of_mem _ he))
      show rd s.th v = 0
      rw [h.th, truthAt, List.take_length, hall _ h.ok, rd, row0]
      simp only [List.getD_eq_getElem?_getD, List.getElem?_replicate]
      split <;> rfl
    · rw [if_neg hz]
      obtain ⟨k1, k2, k3⟩ := evStep_ok (code := code) hl0 (by omega) h hc (by omega) (by omega)
      obtain ⟨j1, j2, j3⟩ := ih _ _ k1 k2 (by omega) (by omega)
      exact ⟨j1, j2.mono (by omega), by omega⟩
theorem evDraw_ok {b : Int} {c : Int × Int} (hl0 : layoutOk n l = 0) (hc : CurOk code b c) (hb : b ≤ 1000000000) : EvI n l ho (evDraw code n l ho c) ∧ (evDraw code n l ho c).out.length ≤ 30 := by
  have hn := lay_n hl0
  unfold evDraw
  obtain ⟨v, c1, _, hv, v0, v1, hc1⟩ := pick_ok (m := 30) hc (by omega) (by omega)
  simp only [hv]
  have hrow : ∀ j : Nat, rd (List.replicate n.toNat (0 : Int)) (j : Int) = 0 := fun j => by
    rw [rd]
    simp only [List.getD_eq_getElem?_getD, List.getElem?_replicate]
    split <;> rfl
  have h := evLoop_ok (code := code) (ho := ho) hl0 v.toNat ⟨c1, List.replicate n.toNat 0, -1, []⟩ (b + 2)
    ⟨by simp [truthAt, row0], by show (-1 : Int) ≤ -1; decide, by show (-1 : Int) < _; omega, fun e he => absurd he (by simp), fun j => by show -((0 : Nat) : Int) ≤ rd (List.replicate n.toNat (0 : Int)) (j : Int) ∧ rd (List.replicate n.toNat (0 : Int)) (j : Int) ≤ ((0 : Nat) : Int); rw [hrow j]; simp,
     fun _ => ⟨fun k hk => absurd hk (by simp), nonneg_of fun j _ => by show 0 ≤ rd (List.replicate n.toNat (0 : Int)) (j : Int); rw [hrow j]; exact Int.le_refl _⟩⟩ hc1 (by omega) (by show 0 + v.toNat ≤ 1000; omega)
  exact ⟨h.1, by have := h.2.2; simp at this; omega⟩
end
end Go.Proofs.Ytpdnabhpkdchjaa.P
namespace Go.Proofs.Ytpdnabhpkdchjaa.P
open Go.RowKit Go.Proofs.YtpdnabhpkdchjaaW.PrintWords Go.Proofs.YtpdnabhpkdchjaaW.PrintLast Go.Proofs.YtpdnabhpkdchjaaW.PrintMore
set_option linter.unusedVariables false
set_option linter.unusedSimpArgs false
theorem rd_runTo (n : Int) (l : List S88) (es : List S56) (m i : Nat) (h : i < m) : rd_T48 (runTo n l es m) (i : Int) = runStep n l (stAt n l es i) (rd_T56 es (i : Int)) := by
  simp [rd_T48, runTo, h]
end Go.Proofs.Ytpdnabhpkdchjaa.P
namespace Go.Proofs.Ytpdnabhpkdchjaa.P
open Go.RowKit Go.Proofs.YtpdnabhpkdchjaaW.PrintWords Go.Proofs.YtpdnabhpkdchjaaW.PrintLast Go.Proofs.YtpdnabhpkdchjaaW.PrintMore
set_option linter.unusedVariables false
set_option linter.unusedSimpArgs false
section
variable {n : Int} {l : List S88} {es : List S56}
def midAt (l : List S88) (op of dir : Int) (j : Nat) (x : S50) : S50 :=
  let c := rd_T88 l of
  let f := if dir = -1 then c.f1 else c.f0
  let t := if dir = -1 then c.f0 else c.f1
  if op = 1 then (if f = (j : Int) then countS x (-1) else if t = (j : Int) then countS x 1 else x)
  else if op = 2 then (if t = (j : Int) then countS x 1 else x)
  else if op = 3 then (if c.f0 = (j : Int) ∨ c.f1 = (j : Int) then loseS x else x)
  else if op = 5 then (if of = (j : Int) then ⟨0, 0, false, true, 0⟩ else x) else x
theorem mid_get (ss : List S50) (op of dir : Int) (hne : op = 1 ∨ op = 3 → (rd_T88 l of).f0 ≠ (rd_T88 l of).f1) (h0 : 0 ≤ of) (j : Nat) (hj : j < ss.length) : rd_T50 (midSecs l ss op of dir) (j : Int) = midAt l op of dir j (rd_T50 ss (j : Int)) := by
  unfold midSecs midAt
  simp only []
  by_cases h1 : op = 1
  · have hn := hne (.inl h1)
    rw [if_pos h1, if_pos h1, addS_get _ _ _ j (by rw [addS_length]; exact hj), addS_get _ _ _ j hj]
    by_cases hd : dir = -1
    · simp only [if_pos hd]
      by_cases e1 : (rd_T88 l of).f1 = (j : Int)
      · rw [if_pos e1, if_pos e1, if_neg (by omega)]
      · rw [if_neg e1, if_neg e1]
    · simp only [if_neg hd]
      by_cases e1 : (rd_T88 l of).f0 = (j : Int)
      · rw [if_pos e1, if_pos e1, if_neg (by omega)]
      · rw [if_neg e1, if_neg e1]
  · rw [if_neg h1, if_neg h1]
    by_cases h2 : op = 2
    · rw [if_pos h2, if_pos h2, addS_get _ _ _ j hj]
    · rw [if_neg h2, if_neg h2]
      by_cases h3 : op = 3
      · have hn := hne (.inr h3)
        rw [if_pos h3, if_pos h3, loseAt_get _ _ j (by rw [loseAt_length]; exact hj), loseAt_get _ _ j hj]
        by_cases e1 : (rd_T88 l of).f1 = (j : Int)
        · rw [if_pos e1, if_neg (by omega), if_pos (.inr e1)]
        · rw [if_neg e1]
          by_cases e0 : (rd_T88 l of).f0 = (j : Int)
          · rw [if_pos e0, if_pos (.inl e0)]
          · rw [if_neg e0, if_neg (by omega)]
      · rw [if_neg h3, if_neg h3]
        by_cases h5 : op = 5
        · rw [if_pos h5, if_pos h5]
          obtain ⟨a, rfl⟩ := Int.eq_ofNat_of_zero_le h0
          by_cases e : a = j
          · subst e; simp [rd_T50, hj]
          · rw [if_neg (by omega)]; simp [rd_T50, List.getElem?_set_ne e]
        · rw [if_neg h5, if_neg h5]
theorem ev_cases {op of dir : Int} (h : eventOk n l op of dir = true) :
    ((op = 1 ∨ op = 2) ∧ 0 ≤ of ∧ of < (l.length : Int) ∧ (dir = 1 ∨ dir = -1)) ∨ ((op = 3 ∨ op = 4) ∧ 0 ≤ of ∧ of < (l.length : Int)) ∨ (op = 5 ∧ 0 ≤ of ∧ of < n) := by
  unfold eventOk at h
  split at h
  · split at h
    · rename_i h1
      simp at h
      exact .inl ⟨h1, h.1.1, h.1.2, h.2⟩
    · split at h
      · rename_i h1
        simp at h
        exact .inr (.inl ⟨h1, h.1.1, h.1.2⟩)
      · split at h
        · rename_i h1
          simp at h
          exact .inr (.inr ⟨h1, h.1.1, h.1.2⟩)
        · cases h
  · cases h
theorem step_get {s : S46} {e : S56} (hl : layoutOk n l = 0) (hok : eventOk n l e.f0 e.f1 e.f2 = true) (hc : doCode l s.f1 s.f2 e.f0 e.f1 = 0) (j : Nat) (hj : j < s.f1.length) :
    rd_T50 (runStep n l s e).f1.f1 (j : Int) = tellS l (midDead s.f2 e.f0 e.f1) j (midAt l e.f0 e.f1 e.f2 j (rd_T50 s.f1 (j : Int))) := by
  have h0 : 0 ≤ e.f1 ∧ (e.f0 = 1 ∨ e.f0 = 3 → (rd_T88 l e.f1).f0 ≠ (rd_T88 l e.f1).f1) := by
    rcases ev_cases hok with ⟨ho, h0, h1, _⟩ | ⟨ho, h0, h1⟩ | ⟨ho, h0, h1⟩
    · exact ⟨h0, fun _ => (lay_rd hl _ h0 h1).2.2.2.2⟩
    · exact ⟨h0, fun _ => (lay_rd hl _ h0 h1).2.2.2.2⟩
    · exact ⟨h0, fun h => by omega⟩
  unfold runStep
  rw [if_pos hok]
  show rd_T50 (doSecs l s.f1 s.f2 e.f0 e.f1 e.f2) (j : Int) = _
  unfold doSecs
  rw [if_pos hc, retold_get _ _ _ j (by rw [midSecs_length]; exact hj), mid_get _ _ _ _ h0.2 h0.1 j hj]
theorem step_not {s : S46} {e : S56} (hok : eventOk n l e.f0 e.f1 e.f2 = true) (hc : doCode l s.f1 s.f2 e.f0 e.f1 ≠ 0) : (runStep n l s e).f1.f1 = s.f1 ∧ (runStep n l s e).f1.f2 = s.f2 := by
  unfold runStep
  rw [if_pos hok]
  show doSecs l s.f1 s.f2 e.f0 e.f1 e.f2 = s.f1 ∧ doDead l s.f1 s.f2 e.f0 e.f1 = s.f2
  unfold doSecs doDead
  rw [if_neg hc, if_neg hc]
  exact ⟨rfl, rfl⟩
end
end Go.Proofs.Ytpdnabhpkdchjaa.P
namespace Go.Proofs.Ytpdnabhpkdchjaa.P
open Go.RowKit Go.Proofs.YtpdnabhpkdchjaaW.PrintWords Go.Proofs.YtpdnabhpkdchjaaW.PrintLast Go.Proofs.YtpdnabhpkdchjaaW.PrintMore
set_option linter.unusedVariables false
set_option linter.unusedSimpArgs false
section
variable {n : Int} {l : List S88} {es : List S56}
def comm1 (p : Int) (y : S88) : Bool := decide (0 ≤ p) && ((p == y.f0) || (p == y.f1))
def commAt (x y : S88) : Nat → Bool
  | 0 => false
  | 1 => comm1 x.f0 y
  | _ + 2 => comm1 x.f0 y || comm1 x.f1 y
theorem comm_not {x y : S88} (h : commAt x y 2 = false) (j : Nat) : ¬ ((x.f0 = (j : Int) ∨ x.f1 = (j : Int)) ∧ (y.f0 = (j : Int) ∨ y.f1 = (j : Int))) := by
  simp only [commAt, comm1, Bool.or_eq_false_iff, Bool.and_eq_false_iff, decide_eq_false_iff_not, beq_eq_false_iff_ne] at h
  omega
theorem midAt_none {of dir : Int} {j : Nat} {x : S50} (h : ¬ ((rd_T88 l of).f0 = (j : Int) ∨ (rd_T88 l of).f1 = (j : Int))) : midAt l 1 of dir j x = x := by
  unfold midAt
  simp only [if_true]
  by_cases hd : dir = -1
  · simp only [if_pos hd]; rw [if_neg (by omega), if_neg (by omega)]
  · simp only [if_neg hd]; rw [if_neg (by omega), if_neg (by omega)]
theorem midAt_told {of dir : Int} {j : Nat} {x : S50} {dd : List Bool} : tellS l dd j (midAt l 1 of dir j (tellS l dd j x)) = tellS l dd j (midAt l 1 of dir j x) := by
  unfold midAt
  simp only [if_true]
  generalize (if dir = -1 then (rd_T88 l of).f1 else (rd_T88 l of).f0) = f
  generalize (if dir = -1 then (rd_T88 l of).f0 else (rd_T88 l of).f1) = t
  by_cases hf : f = (j : Int)
  · simp only [if_pos hf]; rfl
  · by_cases ht : t = (j : Int)
    · simp only [if_neg hf, if_pos ht]; rfl
    · simp only [if_neg hf, if_neg ht]; rfl
theorem secs_ext {r s : List S50} (hl : r.length = s.length) (h : ∀ j : Nat, j < r.length → rd_T50 r (j : Int) = rd_T50 s (j : Int)) : r = s := by
  apply List.ext_getElem hl
  intro i h1 h2
  have := h i h1
  rwa [rd50_get r i h1, rd50_get s i h2] at this
theorem pass_dead {s : S46} {e : S56} (hok : eventOk n l e.f0 e.f1 e.f2 = true) (h1 : e.f0 = 1) : (runStep n l s e).f1.f2 = s.f2 := by
  unfold runStep
  rw [if_pos hok]
  show doDead l s.f1 s.f2 e.f0 e.f1 = s.f2
  have hm : midDead s.f2 e.f0 e.f1 = s.f2 := by unfold midDead; rw [if_neg (by omega), if_neg (by omega)]
  unfold doDead
  rw [hm]
  split <;> rfl
theorem pass_code2 {ss ss' : List S50} {dd : List Bool} {op of : Int} (h1 : op = 1) : doCode l ss dd op of = doCode l ss' dd op of := by
  have h2 : op = 1 ∨ op = 2 := .inl h1
  unfold doCode
  simp only [if_pos h2]
theorem swap_eq {s : S46} {a b : S56} (hl : layoutOk n l = 0) (ha : eventOk n l a.f0 a.f1 a.f2 = true) (hb : eventOk n l b.f0 b.f1 b.f2 = true) (a1 : a.f0 = 1) (b1 : b.f0 = 1) (hn : commAt (rd_T88 l a.f1) (rd_T88 l b.f1) 2 = false) :
    (runStep n l (runStep n l s a).f1 b).f1 = (runStep n l (runStep n l s b).f1 a).f1 := by
  have hda := pass_dead (s := s) ha a1
  have hdb := pass_dead (s := s) hb b1
  have la := runStep_len n l s a
  have lb := runStep_len n l s b
  have lab := runStep_len n l (runStep n l s a).f1 b
  have lba := runStep_len n l (runStep n l s b).f1 a
  have hd2 : (runStep n l (runStep n l s a).f1 b).f1.f2 = (runStep n l (runStep n l s b).f1 a).f1.f2 := by rw [pass_dead hb b1, hda, pass_dead ha a1, hdb]
  have ca : ∀ ss, doCode l ss s.f2 a.f0 a.f1 = doCode l s.f1 s.f2 a.f0 a.f1 := fun ss => pass_code2 a1
  have cb : ∀ ss, doCode l ss s.f2 b.f0 b.f1 = doCode l s.f1 s.f2 b.f0 b.f1 := fun ss => pass_code2 b1
  have hm : ∀ e : S56, e.f0 = 1 → midDead s.f2 e.f0 e.f1 = s.f2 := fun e h => by unfold midDead; rw [if_neg (by omega), if_neg (by omega)]
  have key : ∀ j : Nat, j < s.f1.length → rd_T50 (runStep n l (runStep n l s a).f1 b).f1.f1 (j : Int) = rd_T50 (runStep n l (runStep n l s b).f1 a).f1.f1 (j : Int) := by
    intro j hj
    by_cases qa : doCode l s.f1 s.f2 a.f0 a.f1 = 0
    · have ga := step_get (s := s) hl ha qa j hj
      by_cases qb : doCode l s.f1 s.f2 b.f0 b.f1 = 0
      · have gb := step_get (s := s) hl hb qb j hj
        have gab := step_get (s := (runStep n l s a).f1) hl hb (by rw [hda, cb]; exact qb) j (by rw [la.1]; exact hj)
        have gba := step_get (s := (runStep n l s b).f1) hl ha (by rw [hdb, ca]; exact qa) j (by rw [lb.1]; exact hj)
        rw [gab, gba, ga, gb, hda, hdb, hm a a1, hm b b1, a1, b1]
        by_cases ta : (rd_T88 l a.f1).f0 = (j : Int) ∨ (rd_T88 l a.f1).f1 = (j : Int)
        · have tb : ¬ ((rd_T88 l b.f1).f0 = (j : Int) ∨ (rd_T88 l b.f1).f1 = (j : Int)) := fun q => comm_not hn j ⟨ta, q⟩
          rw [midAt_none (of := b.f1) tb, midAt_none (of := b.f1) tb, midAt_told]
          rfl
        · rw [midAt_none (of := a.f1) ta, midAt_none (of := a.f1) ta, midAt_told]
          rfl
      · have nb := step_not (s := s) hb qb
        have gba := step_get (s := (runStep n l s b).f1) hl ha (by rw [hdb, ca]; exact qa) j (by rw [lb.1]; exact hj)
        have nab := step_not (s := (runStep n l s a).f1) hb (by rw [hda, cb]; exact qb)
        rw [nab.1, gba, ga, nb.1, nb.2]
    · have na := step_not (s := s) ha qa
      have nba := step_not (s := (runStep n l s b).f1) ha (by rw [hdb, ca]; exact qa)
      rw [nba.1]
      by_cases qb : doCode l s.f1 s.f2 b.f0 b.f1 = 0
      · have gb := step_get (s := s) hl hb qb j hj
        have gab := step_get (s := (runStep n l s a).f1) hl hb (by rw [hda, cb]; exact qb) j (by rw [la.1]; exact hj)
        rw [gab, gb, na.1, na.2]
      · have nb := step_not (s := s) hb qb
        have nab := step_not (s := (runStep n l s a).f1) hb (by rw [hda, cb]; exact qb)
        rw [nab.1, na.1, nb.1]
  have h1 : (runStep n l (runStep n l s a).f1 b).f1.f1 = (runStep n l (runStep n l s b).f1 a).f1.f1 :=
    secs_ext (by rw [lab.1, lba.1, la.1, lb.1]) (fun j hj => key j (by rw [lab.1, la.1] at hj; exact hj))
  have h0 : (runStep n l (runStep n l s a).f1 b).f1.f0 = (runStep n l (runStep n l s b).f1 a).f1.f0 := by rw [lab.2.2, lba.2.2]
  generalize (runStep n l (runStep n l s a).f1 b).f1 = p at h0 h1 hd2
  generalize (runStep n l (runStep n l s b).f1 a).f1 = q at h0 h1 hd2
  cases p
  cases q
  simp only at h0 h1 hd2
  subst h0 h1 hd2
  rfl
theorem stAt_app (es : List S56) (xs : List S56) (k : Nat) (h : k ≤ es.length) : stAt n l (es ++ xs) k = stAt n l es k := by
  unfold stAt
  rw [List.take_append_of_le_length h]
theorem last_two (es : List S56) (a b : S56) (hl : layoutOk n l = 0) (he : es.length ≤ 1000) :
    (rd_T48 (run n l (es ++ [a, b])) ((es.length + 1 : Nat) : Int)).f1 = (runStep n l (runStep n l (stAt n l es es.length) a).f1 b).f1 := by
  have hlen : (es ++ [a, b]).length = es.length + 2 := by simp
  rw [run, if_pos ⟨hl, by rw [hlen]; omega⟩, rd_runTo n l _ _ _ (by rw [hlen]; omega), stAt_succ n l _ es.length (by rw [hlen]; omega), stAt_app es [a, b] es.length (Nat.le_refl _)]
  have e1 : rd_T56 (es ++ [a, b]) (es.length : Int) = a := by rw [rd56 _ _ (by rw [hlen]; omega)]; simp
  have e2 : rd_T56 (es ++ [a, b]) ((es.length + 1 : Nat) : Int) = b := by rw [rd56 _ _ (by rw [hlen]; omega)]; simp
  rw [e1, e2]
theorem swap_runs (es : List S56) (a b : S56) (hl : layoutOk n l = 0) (he : es.length ≤ 1000) (ha : eventOk n l a.f0 a.f1 a.f2 = true) (hb : eventOk n l b.f0 b.f1 b.f2 = true) (a1 : a.f0 = 1) (b1 : b.f0 = 1) (hn : commAt (rd_T88 l a.f1) (rd_T88 l b.f1) 2 = false) :
    (rd_T48 (run n l (es ++ [a, b])) ((es.length + 1 : Nat) : Int)).f1 = (rd_T48 (run n l (es ++ [b, a])) ((es.length + 1 : Nat) : Int)).f1 := by
  rw [last_two es a b hl he, last_two es b a hl he]
  exact swap_eq hl ha hb a1 b1 hn
end
end Go.Proofs.Ytpdnabhpkdchjaa.P
namespace Go.Proofs.Ytpdnabhpkdchjaa.P
open Go.RowKit Go.Proofs.YtpdnabhpkdchjaaW.PrintWords Go.Proofs.YtpdnabhpkdchjaaW.PrintLast Go.Proofs.YtpdnabhpkdchjaaW.PrintMore
set_option linter.unusedVariables false
theorem R_off {α : Type} {d : Kd α} {e : Nat} {w : World} {base : Nat} {ok : Nat → Prop} {v : Value} {xs : List α} (hE : d.E = []) (h : d.R e w base ok v xs) {p : Addr} (hne : some p.block ≠ v.ownBlock) (u : Value) : d.R e (w.setCell p u) base (fun _ => True) v xs :=
  Kd.R_mono (Kd.R_far (Kd.R_tight hE h) (fun k hk hp => hne (hp ▸ hk)) u) (fun _ _ => trivial)
theorem R_on {α : Type} {d : Kd α} {e : Nat} {w w' : World} {base : Nat} {ok : Nat → Prop} {v : Value} {xs : List α} (hE : d.E = []) (h : d.R e w base ok v xs) {row : Option Nat} (hg : w.grownBy w' row) (hne : row ≠ v.ownBlock) : d.R e w' base (fun _ => True) v xs :=
  Kd.R_mono (Kd.R_step (Kd.R_tight hE h) (fun k hk hlt => hg.block k hlt (fun c => hne (c ▸ hk)))) (fun _ _ => trivial)
theorem R_up {α : Type} {d : Kd α} {e : Nat} {w w' : World} {base : Nat} {ok : Nat → Prop} {v : Value} {xs : List α} (h : d.R e w base ok v xs) (hb : Below w.heap.size w w') : d.R e w' base (fun _ => True) v xs :=
  Kd.R_mono (Kd.R_step h (fun k hk hlt => hb.block k hlt)) (fun _ _ => trivial)
end Go.Proofs.Ytpdnabhpkdchjaa.P
namespace Go.Proofs.Ytpdnabhpkdchjaa.P
open Go.RowKit Go.Proofs.YtpdnabhpkdchjaaW.PrintWords Go.Proofs.YtpdnabhpkdchjaaW.PrintLast Go.Proofs.YtpdnabhpkdchjaaW.PrintMore
attribute [local go_sem ↓] Go.wp_at_zero Go.wp_at_succ
set_option linter.unusedVariables false
set_option linter.unusedSimpArgs false
structure DoSt (w0 w : World) (gl gs ge gd : Nat) (lv sv ev dv : List Value) (v1 v2 : Value) (ss : List S50) (dd : List Bool) : Prop where
  hl : w.heap[gl]? = some (.cells lv.toArray 30 (0, 0))
  hs : w.heap[gs]? = some (.cells sv.toArray 46 (0, 0))
  he : w.heap[ge]? = some (.cells ev.toArray 56 (0, 0))
  hd : w.heap[gd]? = some (.cells dv.toArray 48 (0, 0))
  H1 : Kd.R k50 50 w w0.heap.size (fun _ => True) v1 ss
  H2 : Kd.R Kd.bool 4 w w0.heap.size (fun _ => True) v2 dd
  hB : Below w0.heap.size w0 w
  gle : w0.heap.size ≤ gl
  gse : w0.heap.size ≤ gs
  gee : w0.heap.size ≤ ge
  gde : w0.heap.size ≤ gd
theorem DoSt.begin {w0 w : World} {gl gs ge gd : Nat} {lv ev dv : List Value} {x0 x1 x2 v0 v1 v2 : Value} {ss : List S50} {dd : List Bool}
    (hl : w.heap[gl]? = some (.cells lv.toArray 30 (0, 0))) (hs : w.heap[gs]? = some (.cells #[x0, x1, x2] 46 (0, 0))) (he : w.heap[ge]? = some (.cells ev.toArray 56 (0, 0))) (hd : w.heap[gd]? = some (.cells dv.toArray 48 (0, 0)))
    (H1 : Kd.R k50 50 w w0.heap.size (fun _ => True) v1 ss) (H2 : Kd.R Kd.bool 4 w w0.heap.size (fun _ => True) v2 dd) (hB : Below w0.heap.size w0 w)
    (gle : w0.heap.size ≤ gl) (gse : w0.heap.size ≤ gs) (gee : w0.heap.size ≤ ge) (gde : w0.heap.size ≤ gd) (n1 : gl ≠ gs) (n2 : ge ≠ gs) (n3 : gd ≠ gs) :
    DoSt w0 (((w.setCell ⟨gs, 0, none⟩ v0).setCell ⟨gs, 1, none⟩ v1).setCell ⟨gs, 2, none⟩ v2) gl gs ge gd lv [v0, v1, v2] ev dv v1 v2 ss dd where
  hl := blk_far (blk_far (blk_far hl n1 _) n1 _) n1 _
  hs := blk_put (blk_put (blk_put hs 0 v0 rfl) 1 v1 rfl) 2 v2 rfl
  he := blk_far (blk_far (blk_far he n2 _) n2 _) n2 _
  hd := blk_far (blk_far (blk_far hd n3 _) n3 _) n3 _
  H1 := R_off rfl (R_off rfl (R_off rfl H1 (Kd.R_ne H1 hs (by decide)) _) (Kd.R_ne H1 hs (by decide)) _) (Kd.R_ne H1 hs (by decide)) _
  H2 := R_off rfl (R_off rfl (R_off rfl H2 (Kd.R_ne H2 hs (by decide)) _) (Kd.R_ne H2 hs (by decide)) _) (Kd.R_ne H2 hs (by decide)) _
  hB := below_set (below_set (below_set hB gse) gse) gse
  gle := gle
  gse := gse
  gee := gee
  gde := gde
theorem cnt_any (s b : Int) (bo : Bool) (g gr n c : Nat) (v2 : Value) (l : List S50) (w : World) (base : Nat) (ok : Nat → Prop) (h1 : s < n)
    (hb : w.heap[g]? = some (.cells #[.bool bo, .slice (some ⟨gr, 0, none⟩) n c, v2] 46 (0, 0))) (HO : Kd.R k50 50 w base ok (.slice (some ⟨gr, 0, none⟩) n c) l) :
    Calls Try.prog 130 #[.int .i64 s, .int .i64 b, .pointer (some ⟨g, 0, none⟩)] w fun e w' => e = .returned (.tuple #[]) ∧ Kd.R k50 50 w' base ok (.slice (some ⟨gr, 0, none⟩) n c) (addS l s b) ∧ w.grownBy w' (some gr) := by
  by_cases h0 : s < 0
  · refine (cnt_out s b _ w h0).mono ?_
    rintro e w' ⟨he, rfl⟩
    exact ⟨he, by rw [addS, if_pos h0]; exact HO, World.grownBy.refl w _⟩
  · rw [addS, if_neg h0]
    exact cnt_calls s b bo g gr n c v2 l w base ok (by omega) h1 hb HO
theorem lose_any (s : Int) (bo : Bool) (g gr n c : Nat) (v2 : Value) (l : List S50) (w : World) (base : Nat) (ok : Nat → Prop) (h1 : s < n)
    (hb : w.heap[g]? = some (.cells #[.bool bo, .slice (some ⟨gr, 0, none⟩) n c, v2] 46 (0, 0))) (HO : Kd.R k50 50 w base ok (.slice (some ⟨gr, 0, none⟩) n c) l) :
    Calls Try.prog 131 #[.int .i64 s, .pointer (some ⟨g, 0, none⟩)] w fun e w' => e = .returned (.tuple #[]) ∧ Kd.R k50 50 w' base ok (.slice (some ⟨gr, 0, none⟩) n c) (loseAt l s) ∧ w.grownBy w' (some gr) := by
  by_cases h0 : s < 0
  · refine (lose_none s _ w h0).mono ?_
    rintro e w' ⟨he, rfl⟩
    exact ⟨he, by rw [loseAt, if_pos h0]; exact HO, World.grownBy.refl w _⟩
  · rw [loseAt, if_neg h0]
    exact lose_calls s bo g gr n c v2 l w base ok (by omega) h1 hb HO
theorem told_at {n : Int} {A : Option Addr} {c : Nat} {l : List S88} {b : Bool} {A1 : Option Addr} {c1 : Nat} {ss : List S50} {A2 : Option Addr} {c2 : Nat} {dd : List Bool} {w : World} (i : Int) (hr : Kd.C k88 w A l.length l) (hc : l.length ≤ c) (hr1 : Kd.C k50 w A1 ss.length ss) (hc1 : ss.length ≤ c1) (hr2 : Kd.C Kd.bool w A2 dd.length dd) (hc2 : dd.length ≤ c2)
    (hl : l.length ≤ 1048576) (hd : dd.length = l.length) (h0 : 0 ≤ i) (h1 : i < ss.length) :
    Calls Try.prog 97 #[.agg #[.int .i64 n, .slice A l.length c], .agg #[.bool b, .slice A1 ss.length c1, .slice A2 dd.length c2], .int .i64 i] w fun e w' => e = .returned (.int .i64 (toldC l dd i (rd_T50 ss i))) ∧ Below w.heap.size w w' := by
  obtain ⟨k, h⟩ := (implTold_ev n l dd b ss i hl hd h0 h1).rounds
  exact impl_told.calls k n A c l b A1 c1 ss A2 c2 dd i _ w hr hc hr1 hc1 hr2 hc2 h
theorem dead_at {n : Int} {A : Option Addr} {c : Nat} {l : List S88} {b : Bool} {A1 : Option Addr} {c1 : Nat} {ss : List S50} {A2 : Option Addr} {c2 : Nat} {dd : List Bool} {w : World} {x : Bool} (i : Int) (hx : deadAt l dd i = x) (hr : Kd.C k88 w A l.length l) (hc : l.length ≤ c) (hr1 : Kd.C k50 w A1 ss.length ss) (hc1 : ss.length ≤ c1) (hr2 : Kd.C Kd.bool w A2 dd.length dd) (hc2 : dd.length ≤ c2)
    (hl : l.length ≤ 1048576) (hd : dd.length = l.length) :
    Calls Try.prog 98 #[.agg #[.int .i64 n, .slice A l.length c], .agg #[.bool b, .slice A1 ss.length c1, .slice A2 dd.length c2], .int .i64 i] w fun e w' => e = .returned (.bool x) ∧ Below w.heap.size w w' := by
  obtain ⟨k, h⟩ := (implDead_ev n l dd b ss i hl hd).rounds
  rw [← hx]
  exact impl_dead.calls k n A c l b A1 c1 ss A2 c2 dd i _ w hr hc hr1 hc1 hr2 hc2 h
theorem bool_at {w : World} {base : Nat} {ok : Nat → Prop} {g n c : Nat} {dd : List Bool} (h : Kd.R Kd.bool 4 w base ok (.slice (some ⟨g, 0, none⟩) n c) dd) (i : Int) (h0 : 0 ≤ i) (h1 : i < n) :
    w.cell? ⟨g, i.toNat, none⟩ = some (.bool (rdOf false dd i)) ∧ w.frozen? ⟨g, i.toNat, none⟩ = false := by
  obtain ⟨ce, hcl, hM, hcc, hfr⟩ := Kd.R_elem h false i h0 h1
  have hM0 : ce = [.bool (dd.getD i.toNat false)] := hM
  subst hM0
  have e : i.toNat * Kd.bool.sz + 0 = i.toNat := by show i.toNat * 1 + 0 = _; omega
  have q1 := hcc 0 _ rfl
  have q2 := hfr 0
  rw [e] at q1 q2
  exact ⟨q1, q2⟩
theorem own_ge {α : Type} {d : Kd α} {e : Nat} {w : World} {base : Nat} {ok : Nat → Prop} {g n c : Nat} {xs : List α} (h : d.R e w base ok (.slice (some ⟨g, 0, none⟩) n c) xs) : base ≤ g := by
  rcases Kd.R_base2 h with h | ⟨k, hk, hb⟩
  · cases h
  · cases hk; exact hb
section
variable {w0 w w' : World} {gl gs ge gd : Nat} {lv sv ev dv : List Value} {v1 v2 : Value} {ss ss' : List S50} {dd dd' : List Bool}
theorem DoSt.sec {gr m cr : Nat} (h : DoSt w0 w gl gs ge gd lv sv ev dv (.slice (some ⟨gr, 0, none⟩) m cr) v2 ss dd) (H1 : Kd.R k50 50 w' w0.heap.size (fun _ => True) (.slice (some ⟨gr, 0, none⟩) m cr) ss') (hg : w.grownBy w' (some gr)) :
    DoSt w0 w' gl gs ge gd lv sv ev dv (.slice (some ⟨gr, 0, none⟩) m cr) v2 ss' dd where
  hl := blk_grown h.hl hg (Kd.R_ne h.H1 h.hl (by decide))
  hs := blk_grown h.hs hg (Kd.R_ne h.H1 h.hs (by decide))
  he := blk_grown h.he hg (Kd.R_ne h.H1 h.he (by decide))
  hd := blk_grown h.hd hg (Kd.R_ne h.H1 h.hd (by decide))
  H1 := H1
  H2 := R_on rfl h.H2 hg (by
    obtain ⟨inner, ho⟩ := Kd.R_own h.H1
    obtain ⟨cells, hc⟩ := own_typed ho gr rfl
    exact Kd.R_ne h.H2 hc (by decide))
  hB := pw_below_grown h.hB _ h.hB.size hg (fun k hk => by cases hk; exact own_ge h.H1)
  gle := h.gle
  gse := h.gse
  gee := h.gee
  gde := h.gde
theorem DoSt.dead {gb m cb : Nat} (h : DoSt w0 w gl gs ge gd lv sv ev dv v1 (.slice (some ⟨gb, 0, none⟩) m cb) ss dd) (i : Int) (x : Bool) :
    DoSt w0 (w.setCell ⟨gb, i.toNat, none⟩ (.bool x)) gl gs ge gd lv sv ev dv v1 (.slice (some ⟨gb, 0, none⟩) m cb) ss (dd.set i.toNat x) := by
  obtain ⟨H2, hg⟩ := Kd.R_putg h.H2 i x
  exact {
  hl := blk_grown h.hl hg (Kd.R_ne h.H2 h.hl (by decide))
  hs := blk_grown h.hs hg (Kd.R_ne h.H2 h.hs (by decide))
  he := blk_grown h.he hg (Kd.R_ne h.H2 h.he (by decide))
  hd := blk_grown h.hd hg (Kd.R_ne h.H2 h.hd (by decide))
  H1 := R_on rfl h.H1 hg (by
    obtain ⟨inner, ho⟩ := Kd.R_own h.H2
    obtain ⟨cells, hc⟩ := own_typed ho gb rfl
    exact Kd.R_ne h.H1 hc (by decide))
  H2 := H2
  hB := pw_below_grown h.hB _ h.hB.size hg (fun k hk => by cases hk; exact own_ge h.H2)
  gle := h.gle
  gse := h.gse
  gee := h.gee
  gde := h.gde }
theorem DoSt.up (h : DoSt w0 w gl gs ge gd lv sv ev dv v1 v2 ss dd) (hb : Below w.heap.size w w') : DoSt w0 w' gl gs ge gd lv sv ev dv v1 v2 ss dd where
  hl := blk_below h.hl hb
  hs := blk_below h.hs hb
  he := blk_below h.he hb
  hd := blk_below h.hd hb
  H1 := R_up h.H1 hb
  H2 := R_up h.H2 hb
  hB := below_step h.hB hb
  gle := h.gle
  gse := h.gse
  gee := h.gee
  gde := h.gde
theorem DoSt.fill {x0 x1 x2 x3 y0 y1 y2 y3 : Value} (h : DoSt w0 w gl gs ge gd lv sv ev [x0, x1, x2, x3] v1 v2 ss dd) :
    DoSt w0 ((((w.setCell ⟨gd, 0, none⟩ y0).setCell ⟨gd, 1, none⟩ y1).setCell ⟨gd, 2, none⟩ y2).setCell ⟨gd, 3, none⟩ y3) gl gs ge gd lv sv ev [y0, y1, y2, y3] v1 v2 ss dd where
  hl := blk_far (blk_far (blk_far (blk_far h.hl (blk_ne h.hl h.hd (by decide)) _) (blk_ne h.hl h.hd (by decide)) _) (blk_ne h.hl h.hd (by decide)) _) (blk_ne h.hl h.hd (by decide)) _
  hs := blk_far (blk_far (blk_far (blk_far h.hs (blk_ne h.hs h.hd (by decide)) _) (blk_ne h.hs h.hd (by decide)) _) (blk_ne h.hs h.hd (by decide)) _) (blk_ne h.hs h.hd (by decide)) _
  he := blk_far (blk_far (blk_far (blk_far h.he (blk_ne h.he h.hd (by decide)) _) (blk_ne h.he h.hd (by decide)) _) (blk_ne h.he h.hd (by decide)) _) (blk_ne h.he h.hd (by decide)) _
  hd := blk_put (blk_put (blk_put (blk_put h.hd 0 y0 rfl) 1 y1 rfl) 2 y2 rfl) 3 y3 rfl
  H1 := R_off rfl (R_off rfl (R_off rfl (R_off rfl h.H1 (Kd.R_ne h.H1 h.hd (by decide)) _) (Kd.R_ne h.H1 h.hd (by decide)) _) (Kd.R_ne h.H1 h.hd (by decide)) _) (Kd.R_ne h.H1 h.hd (by decide)) _
  H2 := R_off rfl (R_off rfl (R_off rfl (R_off rfl h.H2 (Kd.R_ne h.H2 h.hd (by decide)) _) (Kd.R_ne h.H2 h.hd (by decide)) _) (Kd.R_ne h.H2 h.hd (by decide)) _) (Kd.R_ne h.H2 h.hd (by decide)) _
  hB := below_set (below_set (below_set (below_set h.hB h.gde) h.gde) h.gde) h.gde
  gle := h.gle
  gse := h.gse
  gee := h.gee
  gde := h.gde
end
theorem evOk_cases {n : Int} {l : List S88} {op of dir : Int} (h : eventOk n l op of dir = true) :
    ((op = 1 ∨ op = 2) ∧ 0 ≤ of ∧ of < (l.length : Int) ∧ (dir = 1 ∨ dir = -1)) ∨ ((op = 3 ∨ op = 4) ∧ 0 ≤ of ∧ of < (l.length : Int)) ∨ (op = 5 ∧ 0 ≤ of ∧ of < n) := by
  unfold eventOk at h
  split at h
  · split at h
    · rename_i h1
      simp at h
      exact .inl ⟨h1, h.1.1, h.1.2, h.2⟩
    · split at h
      · rename_i h1
        simp at h
        exact .inr (.inl ⟨h1, h.1.1, h.1.2⟩)
      · split at h
        · rename_i h1
          simp at h
          exact .inr (.inr ⟨h1, h.1.1, h.1.2⟩)
        · cases h
  · cases h
theorem told_of {n : Int} {A : Option Addr} {c : Nat} {l : List S88} {b : Bool} {A1 : Option Addr} {m1 c1 : Nat} {ss : List S50} {A2 : Option Addr} {m2 c2 : Nat} {dd : List Bool} {w : World} {b1 b2 : Nat} {o1 o2 : Nat → Prop} (i : Int) (hr : Kd.C k88 w A l.length l) (hc : l.length ≤ c) (H1 : Kd.R k50 50 w b1 o1 (.slice A1 m1 c1) ss) (H2 : Kd.R Kd.bool 4 w b2 o2 (.slice A2 m2 c2) dd) (e1 : m1 = ss.length) (e2 : m2 = dd.length)
    (hl : l.length ≤ 1048576) (hd : dd.length = l.length) (h0 : 0 ≤ i) (h1 : i < m1) :
    Calls Try.prog 97 #[.agg #[.int .i64 n, .slice A l.length c], .agg #[.bool b, .slice A1 m1 c1, .slice A2 m2 c2], .int .i64 i] w fun e w' => e = .returned (.int .i64 (toldC l dd i (rd_T50 ss i))) ∧ Below w.heap.size w w' := by
  subst e1 e2
  exact told_at i hr hc (Kd.R_reads' H1).2.2 (Kd.R_reads' H1).2.1 (Kd.R_reads' H2).2.2 (Kd.R_reads' H2).2.1 hl hd h0 h1
theorem retold_step (l : List S88) (dd : List Bool) (ss : List S50) (k : Nat) (hk : k < ss.length) :
    (retoldTo l dd ss k).set (k : Int).toNat ⟨toldC l dd (k : Int) (rd_T50 (retoldTo l dd ss k) (k : Int)), (rd_T50 (retoldTo l dd ss k) (k : Int)).f1, (rd_T50 (retoldTo l dd ss k) (k : Int)).f2, (rd_T50 (retoldTo l dd ss k) (k : Int)).f3, (rd_T50 (retoldTo l dd ss k) (k : Int)).f4⟩ = retoldTo l dd ss (k + 1) := by
  rw [Int.toNat_natCast, retoldTo_at l dd ss k hk]
  exact retoldTo_succ l dd ss k hk
set_option maxHeartbeats 4000000 in
set_option maxRecDepth 100000 in
theorem do_is (n : Int) (A : Option Addr) (c : Nat) (l : List S88) (b : Bool) (A1 : Option Addr) (c1 : Nat) (ss : List S50) (A2 : Option Addr) (c2 : Nat) (dd : List Bool) (op of dir : Int) (w : World)
    (hr : Kd.C k88 w A l.length l) (hc : l.length ≤ c) (hr1 : Kd.C k50 w A1 ss.length ss) (hc1 : ss.length ≤ c1) (hr2 : Kd.C Kd.bool w A2 dd.length dd) (hc2 : dd.length ≤ c2)
    (hl : layoutOk n l = 0) (hns : (ss.length : Int) = n) (hnd : dd.length = l.length) (hev : eventOk n l op of dir = true) :
    Calls Try.prog 96 #[.agg #[.int .i64 n, .slice A l.length c], .agg #[.bool b, .slice A1 ss.length c1, .slice A2 dd.length c2], .agg #[.int .i64 op, .int .i64 of, .int .i64 dir]] w fun e w' => ∃ v2_ v3_ : Value, e = .returned (.agg #[.int .i64 (doCode l ss dd op of), .bool true, v2_, v3_]) ∧ Kd.R k50 50 w' w.heap.size (fun _ => True) v2_ (doSecs l ss dd op of dir) ∧ Kd.R Kd.bool 4 w' w.heap.size (fun _ => True) v3_ (doDead l ss dd op of) ∧ Below w.heap.size w w' := by
  have hn := lay_n hl
  have hs : ss.length ≤ 1000000 := by omega
  have hd : dd.length ≤ 1000000 := by omega
  have hpos : 0 < ss.length := by omega
  have HN := Aside0.mk (And.intro hl (And.intro hns (And.intro hnd hev)))
  clear hn hl hns hnd hev
  have f1 : impl_Section.f ss = some ss := by unfold impl_Section.f; rw [if_pos hs]
  have f2 : slices_Clone_bool_bool.f dd = some dd := by unfold slices_Clone_bool_bool.f; rw [if_pos hd]
  have HR := Aside0.mk hr
  have HR1 := Aside0.mk hr1
  have HR2 := Aside0.mk hr2
  clear hr hr1 hr2
  go_enter Try.func96, Try.ntmps96
  go_upto_region 1 with (first | ((with_reducible refine gate_dst (N := 3) rfl ?_); refine box_event ?hg (N := 3) ?hd (cs := #[.int .i64 n, .slice A l.length c]) (t := 30) ?hr ?_; (case hd => rfl); (case hg => rfl); (case hr => first | (go_simp; done) | (go_simp; rfl)); intro gl el wl kl bl) | ((with_reducible refine gate_dst (N := 4) rfl ?_); refine box_event ?hg (N := 4) ?hd (cs := #[.bool b, .slice A1 ss.length c1, .slice A2 dd.length c2]) (t := 46) ?hr ?_; (case hd => rfl); (case hg => rfl); (case hr => first | (go_simp; done) | (go_simp; rfl)); intro gs es ws ks bs) | ((with_reducible refine gate_dst (N := 5) rfl ?_); refine box_event ?hg (N := 5) ?hd (cs := #[.int .i64 op, .int .i64 of, .int .i64 dir]) (t := 56) ?hr ?_; (case hd => rfl); (case hg => rfl); (case hr => first | (go_simp; done) | (go_simp; rfl)); intro ge ee we ke be) | ((with_reducible refine gate_dst (N := 6) rfl ?_); refine box_event ?hg (N := 6) ?hd (cs := #[.int .i64 0, .bool false, .slice none 0 0, .slice none 0 0]) (t := 48) ?hr ?_; (case hd => rfl); (case hg => rfl); (case hr => first | (go_simp; done) | (go_simp; rfl)); intro gd ed wd kd_ bd))
  have KL := Aside0.mk (blk_below (blk_below (blk_below kl bs) be) bd)
  have KS := Aside0.mk (blk_below (blk_below ks be) bd)
  have KE := Aside0.mk (blk_below ke bd)
  have KD := Aside0.mk kd_
  have BB := Aside0.mk (below_step (below_step (below_step bl bs) be) bd)
  have GL := Aside0.mk (show w.heap.size ≤ gl by rw [el]; exact Nat.le_refl _)
  have GS := Aside0.mk (show w.heap.size ≤ gs by rw [es]; exact bl.size)
  have GE := Aside0.mk (show w.heap.size ≤ ge by rw [ee]; exact (below_step bl bs).size)
  have GD := Aside0.mk (show w.heap.size ≤ gd by rw [ed]; exact (below_step (below_step bl bs) be).size)
  clear kl ks ke kd_ bl bs be bd el es ee ed
  simp only [Act.put, List.setIfInBounds_toArray, List.set_cons_zero, List.set_cons_succ]
  go_cut [] from 12 to 18 (fun wx => ∃ v1 v2 : Value, DoSt w wx gl gs ge gd [.int .i64 n, .slice A l.length c] [.bool true, v1, v2] [.int .i64 op, .int .i64 of, .int .i64 dir] [.int .i64 0, .bool false, .slice none 0 0, .slice none 0 0] v1 v2 ss dd)
  case first =>
    have e1 : wd.drew.cell? ⟨gs, 1, none⟩ = some (.slice A1 ss.length c1) := (blk_cell (blk_drew KS.out) 1).trans rfl
    have e2 : wd.drew.cell? ⟨gs, 2, none⟩ = some (.slice A2 dd.length c2) := (blk_cell (blk_drew KS.out) 2).trans rfl
    have kx := Aside0.mk (blk_drew KS.out)
    have bx := Aside0.mk (below_drew1 BB.out)
    have by_ := Aside0.mk (below_drew1 (Below.refl wd.heap.size wd))
    go_region_with (first | (go_at_call 94; refine (impl_Section.calls A1 c1 ss ss _ (Kd.C_below HR1.out bx.out) hc1 f1).mono ?_; rintro e w' ⟨v1, rfl, ho1, hb1⟩; obtain ⟨Aa, ca, rfl⟩ := Kd.R_slice ho1; have kx := Aside0.mk (blk_below kx.out hb1); have c0_ : w'.cell? ⟨gs, 0, none⟩ = some (.bool b) := (blk_cell kx.out 0).trans rfl; have c1_ : w'.cell? ⟨gs, 1, none⟩ = some (.slice A1 ss.length c1) := (blk_cell kx.out 1).trans rfl; have c2_ : w'.cell? ⟨gs, 2, none⟩ = some (.slice A2 dd.length c2) := (blk_cell kx.out 2).trans rfl; have z0_ := blk_frozen kx.out 0; have z1_ := blk_frozen kx.out 1; have z2_ := blk_frozen kx.out 2; have HO1 := Aside0.mk (Kd.R_lower ho1 bx.out.size); (try (have HO2 := Aside0.mk (R_up HO2.out hb1))); have bx := Aside0.mk (below_step bx.out hb1); have by_ := Aside0.mk (below_step by_.out hb1); clear hb1 ho1) | (go_at_call 95; refine (slices_Clone_bool_bool.calls A2 c2 dd dd _ (Kd.C_below HR2.out bx.out) hc2 f2).mono ?_; rintro e w' ⟨v2, rfl, ho2, hb2⟩; obtain ⟨Ab, cb, rfl⟩ := Kd.R_slice ho2; have kx := Aside0.mk (blk_below kx.out hb2); have c0_ : w'.cell? ⟨gs, 0, none⟩ = some (.bool b) := (blk_cell kx.out 0).trans rfl; have c1_ : w'.cell? ⟨gs, 1, none⟩ = some (.slice A1 ss.length c1) := (blk_cell kx.out 1).trans rfl; have c2_ : w'.cell? ⟨gs, 2, none⟩ = some (.slice A2 dd.length c2) := (blk_cell kx.out 2).trans rfl; have z0_ := blk_frozen kx.out 0; have z1_ := blk_frozen kx.out 1; have z2_ := blk_frozen kx.out 2; have HO2 := Aside0.mk (Kd.R_lower ho2 bx.out.size); (try (have HO1 := Aside0.mk (R_up HO1.out hb2))); have bx := Aside0.mk (below_step bx.out hb2); have by_ := Aside0.mk (below_step by_.out hb2); clear hb2 ho2))
    all_goals (go_wp2_with fail; go_meet)
    all_goals exact ⟨_, _, DoSt.begin (blk_below KL.out by_.out) kx.out (blk_below KE.out by_.out) (blk_below KD.out by_.out) HO1.out HO2.out bx.out GL.out GS.out GE.out GD.out (blk_ne KL.out KS.out (by decide)) (blk_ne KE.out KS.out (by decide)) (blk_ne KD.out KS.out (by decide))⟩
  case rest =>
    obtain ⟨v1, v2, ST⟩ := hcut
    obtain ⟨gr, cr, e1, _, _, _⟩ := Kd.R_form ST.H1 hpos
    obtain ⟨Ad, cd, e2⟩ := Kd.R_slice ST.H2
    subst e1 e2
    have SA := Aside0.mk (show DoSt w wc gl gs ge gd [.int .i64 n, .slice A l.length c] [.bool true, .slice (some ⟨gr, 0, none⟩) ss.length cr, .slice Ad dd.length cd] [.int .i64 op, .int .i64 of, .int .i64 dir] [.int .i64 0, .bool false, .slice none 0 0, .slice none 0 0] (.slice (some ⟨gr, 0, none⟩) ss.length cr) (.slice Ad dd.length cd) ss dd from ST)
    have ce0 : wc.cell? ⟨ge, 0, none⟩ = some (.int .i64 op) := (blk_cell ST.he 0).trans rfl
    have ce1 : wc.cell? ⟨ge, 1, none⟩ = some (.int .i64 of) := (blk_cell ST.he 1).trans rfl
    have ce2 : wc.cell? ⟨ge, 2, none⟩ = some (.int .i64 dir) := (blk_cell ST.he 2).trans rfl
    have cs1 : wc.cell? ⟨gs, 1, none⟩ = some (.slice (some ⟨gr, 0, none⟩) ss.length cr) := (blk_cell ST.hs 1).trans rfl
    have cs2 : wc.cell? ⟨gs, 2, none⟩ = some (.slice Ad dd.length cd) := (blk_cell ST.hs 2).trans rfl
    have cs0 : wc.cell? ⟨gs, 0, none⟩ = some (.bool true) := (blk_cell ST.hs 0).trans rfl
    have cl0 : wc.cell? ⟨gl, 0, none⟩ = some (.int .i64 n) := (blk_cell ST.hl 0).trans rfl
    have cl1 : wc.cell? ⟨gl, 1, none⟩ = some (.slice A l.length c) := (blk_cell ST.hl 1).trans rfl
    clear ST KL KS KE KD BB
    go_upto_block 0 with fail
    go_cut [] from 9 to 115 (fun wx => Aside0 (DoSt w wx gl gs ge gd [.int .i64 n, .slice A l.length c] [.bool true, .slice (some ⟨gr, 0, none⟩) ss.length cr, .slice Ad dd.length cd] [.int .i64 op, .int .i64 of, .int .i64 dir] [.int .i64 0, .bool false, .slice none 0 0, .slice none 0 0] (.slice (some ⟨gr, 0, none⟩) ss.length cr) (.slice Ad dd.length cd) (midSecs l ss op of dir) (midDead dd op of)) ∧ Aside0 (doCode l ss dd op of = 0))
    case first =>
      obtain ⟨hl, hns, hnd, hev⟩ := HN.out
      have hln := lay_n hl
      have HL2 := Aside0.mk hln
      rcases evOk_cases hev with ⟨hop, ho0, ho1, hdir⟩ | ⟨hop, ho0, ho1⟩ | ⟨rfl, ho0, ho1⟩
      · have lr := lay_rd hl of ho0 ho1
        have ho2 := ho1
        rw [← hnd] at ho1
        obtain ⟨gb, cb, e, _, _, _⟩ := Kd.R_form SA.out.H2 (show 0 < dd.length by omega)
        cases e
        obtain ⟨x0, xf⟩ := bool_at SA.out.H2 of ho0 ho1
        obtain ⟨ad, e, y0, y1⟩ := at_T88 HR.out of ho0 (by omega)
        subst e
        have lr0 : (rd_T88 l of).f0 < (ss.length : Int) := by omega
        have lr1 : (rd_T88 l of).f1 < (ss.length : Int) := by omega
        have LR0 := Aside0.mk lr0
        have LR1 := Aside0.mk lr1
        clear lr lr0 lr1 hl hns hnd hev hln
        have Y0 := Aside0.mk y0
        have Y1 := Aside0.mk y1
        clear y0 y1
        rcases Bool.eq_false_or_eq_true (rdOf false dd of) with hdo | hdo
        · rw [hdo] at x0
          have HDO := Aside0.mk hdo
          clear hdo
          have hc2 : doCode l ss dd op of = 2 := by unfold doCode; rw [if_pos hop, if_pos HDO.out]
          have HC2 := Aside0.mk hc2
          clear hc2
          have kd0 := (blk_cell SA.out.hd 0).trans (show _ = some (Value.int .i64 0) from rfl)
          have kd1 := (blk_cell SA.out.hd 1).trans (show _ = some (Value.bool false) from rfl)
          have kd2 := (blk_cell SA.out.hd 2).trans (show _ = some (Value.slice none 0 0) from rfl)
          have kd3 := (blk_cell SA.out.hd 3).trans (show _ = some (Value.slice none 0 0) from rfl)
          have kz0 := blk_frozen SA.out.hd 0
          have kz1 := blk_frozen SA.out.hd 1
          have kz2 := blk_frozen SA.out.hd 2
          have kz3 := blk_frozen SA.out.hd 3
          rcases hop with rfl | rfl
          all_goals
            go_wp2_with fail
            have SF := SA.out.fill (y0 := .int .i64 2) (y1 := .bool true) (y2 := (.slice (some ⟨gr, 0, none⟩) ss.length cr)) (y3 := (.slice (some ⟨gb, 0, none⟩) dd.length cd))
            refine bodyPost_ret (results_cell_row rfl _ _ gd 48 _ (0, 0) _ rfl SF.hd Try.underlying48 rfl (by kernel_rfl)) rfl ⟨_, _, by rw [HC2.out], ?_, ?_, SF.hB⟩
            · unfold doSecs; rw [HC2.out]; exact SF.H1
            · unfold doDead; rw [HC2.out]; exact SF.H2
        · rw [hdo] at x0
          have HDO := Aside0.mk hdo
          clear hdo
          have y0 := pw_cell_below SA.out.hB Y0.out
          have y1 := pw_cell_below SA.out.hB Y1.out
          rcases hdir with rfl | rfl
          · rcases hop with rfl | rfl
            · go_upto_region 12 with (first | ((with_reducible refine gate_dst (N := 9) rfl ?_); refine box_event ?hg (N := 9) ?hd (cs := #[.int .i64 0, .int .i64 0]) (t := 88) ?hr ?_; (case hd => rfl); (case hg => rfl); (case hr => first | (go_simp; done) | (go_simp; rfl)); intro gc ec wb kc bc; have KC := Aside0.mk kc; have EC := Aside0.mk ec; have BC := Aside0.mk bc; have zc0 := blk_frozen kc 0; have zc1 := blk_frozen kc 1; have kc0 := (blk_cell kc 0).trans (show _ = some (Value.int .i64 0) from rfl); have kc1 := (blk_cell kc 1).trans (show _ = some (Value.int .i64 0) from rfl); have e0 := pw_cell_below bc ce0; have e1 := pw_cell_below bc ce1; have e2 := pw_cell_below bc ce2; have ss1 := pw_cell_below bc cs1; have ss2 := pw_cell_below bc cs2; clear kc ec bc))
              have KX := Aside0.mk (blk_put (blk_put KC.out 0 (.int .i64 (rd_T88 l of).f0) rfl) 1 (.int .i64 (rd_T88 l of).f1) rfl)
              have BX := Aside0.mk (below_set (j := 1) (v := (.int .i64 (rd_T88 l of).f1)) (below_set (j := 0) (v := (.int .i64 (rd_T88 l of).f0)) BC.out (Nat.le_of_eq EC.out.symm)) (Nat.le_of_eq EC.out.symm))
              have S1 := Aside0.mk (SA.out.up BX.out)
              clear SA ce0 ce1 ce2 cs0 cs1 cs2 cl0 cl1 x0 xf KC BC BX zc0 zc1 kc0 kc1 e0 e1 e2 ss1 ss2 y0 y1 EC
              generalize ((wb.setCell ⟨gc, 0, none⟩ (.int .i64 (rd_T88 l of).f0)).setCell ⟨gc, 1, none⟩ (.int .i64 (rd_T88 l of).f1)) = w1 at S1 KX ⊢
              have kge0 : w1.cell? ⟨ge, 0, none⟩ = some (.int .i64 1) := (blk_cell S1.out.he 0).trans rfl
              have kge1 : w1.cell? ⟨ge, 1, none⟩ = some (.int .i64 of) := (blk_cell S1.out.he 1).trans rfl
              have kge2 : w1.cell? ⟨ge, 2, none⟩ = some (.int .i64 1) := (blk_cell S1.out.he 2).trans rfl
              have kgs0 : w1.cell? ⟨gs, 0, none⟩ = some (.bool true) := (blk_cell S1.out.hs 0).trans rfl
              have kgs1 : w1.cell? ⟨gs, 1, none⟩ = some (.slice (some ⟨gr, 0, none⟩) ss.length cr) := (blk_cell S1.out.hs 1).trans rfl
              have kgs2 : w1.cell? ⟨gs, 2, none⟩ = some (.slice (some ⟨gb, 0, none⟩) dd.length cd) := (blk_cell S1.out.hs 2).trans rfl
              have kgl0 : w1.cell? ⟨gl, 0, none⟩ = some (.int .i64 n) := (blk_cell S1.out.hl 0).trans rfl
              have kgl1 : w1.cell? ⟨gl, 1, none⟩ = some (.slice (some ad) l.length c) := (blk_cell S1.out.hl 1).trans rfl
              have kc0 : w1.cell? ⟨gc, 0, none⟩ = some (.int .i64 (rd_T88 l of).f0) := (blk_cell KX.out 0).trans rfl
              have kc1 : w1.cell? ⟨gc, 1, none⟩ = some (.int .i64 (rd_T88 l of).f1) := (blk_cell KX.out 1).trans rfl
              go_upto_region 14 with (go_at_call 130; refine (cnt_any _ _ true gs gr ss.length cr _ _ _ _ _ LR0.out S1.out.hs S1.out.H1).mono ?_; rintro e w2 ⟨rfl, hR, hg⟩; have S2 := Aside0.mk (S1.out.sec hR hg); have KY := Aside0.mk (blk_grown KX.out hg (Kd.R_ne S1.out.H1 KX.out (by decide))); clear hR hg)
              clear kge0 kge1 kge2 kgs0 kgs1 kgs2 kgl0 kgl1
              clear kc0 kc1 S1 KX
              have kge0 : w2.cell? ⟨ge, 0, none⟩ = some (.int .i64 1) := (blk_cell S2.out.he 0).trans rfl
              have kge1 : w2.cell? ⟨ge, 1, none⟩ = some (.int .i64 of) := (blk_cell S2.out.he 1).trans rfl
              have kge2 : w2.cell? ⟨ge, 2, none⟩ = some (.int .i64 1) := (blk_cell S2.out.he 2).trans rfl
              have kgs0 : w2.cell? ⟨gs, 0, none⟩ = some (.bool true) := (blk_cell S2.out.hs 0).trans rfl
              have kgs1 : w2.cell? ⟨gs, 1, none⟩ = some (.slice (some ⟨gr, 0, none⟩) ss.length cr) := (blk_cell S2.out.hs 1).trans rfl
              have kgs2 : w2.cell? ⟨gs, 2, none⟩ = some (.slice (some ⟨gb, 0, none⟩) dd.length cd) := (blk_cell S2.out.hs 2).trans rfl
              have kgl0 : w2.cell? ⟨gl, 0, none⟩ = some (.int .i64 n) := (blk_cell S2.out.hl 0).trans rfl
              have kgl1 : w2.cell? ⟨gl, 1, none⟩ = some (.slice (some ad) l.length c) := (blk_cell S2.out.hl 1).trans rfl
              have kc1 : w2.cell? ⟨gc, 1, none⟩ = some (.int .i64 (rd_T88 l of).f1) := (blk_cell KY.out 1).trans rfl
              go_wp2_with (go_at_call 130; refine (cnt_any _ _ true gs gr ss.length cr _ _ _ _ _ LR1.out S2.out.hs S2.out.H1).mono ?_; rintro e w3 ⟨rfl, hR, hg⟩; have S3 := Aside0.mk (S2.out.sec hR hg); clear hR hg)
              go_meet
              case rel => exact ⟨⟨S3.out⟩, ⟨by unfold doCode; rw [if_pos (by decide), HDO.out]; rfl⟩⟩
            · go_upto_region 12 with (first | ((with_reducible refine gate_dst (N := 9) rfl ?_); refine box_event ?hg (N := 9) ?hd (cs := #[.int .i64 0, .int .i64 0]) (t := 88) ?hr ?_; (case hd => rfl); (case hg => rfl); (case hr => first | (go_simp; done) | (go_simp; rfl)); intro gc ec wb kc bc; have KC := Aside0.mk kc; have EC := Aside0.mk ec; have BC := Aside0.mk bc; have zc0 := blk_frozen kc 0; have zc1 := blk_frozen kc 1; have kc0 := (blk_cell kc 0).trans (show _ = some (Value.int .i64 0) from rfl); have kc1 := (blk_cell kc 1).trans (show _ = some (Value.int .i64 0) from rfl); have e0 := pw_cell_below bc ce0; have e1 := pw_cell_below bc ce1; have e2 := pw_cell_below bc ce2; have ss1 := pw_cell_below bc cs1; have ss2 := pw_cell_below bc cs2; clear kc ec bc))
              have KX := Aside0.mk (blk_put (blk_put KC.out 0 (.int .i64 (rd_T88 l of).f0) rfl) 1 (.int .i64 (rd_T88 l of).f1) rfl)
              have BX := Aside0.mk (below_set (j := 1) (v := (.int .i64 (rd_T88 l of).f1)) (below_set (j := 0) (v := (.int .i64 (rd_T88 l of).f0)) BC.out (Nat.le_of_eq EC.out.symm)) (Nat.le_of_eq EC.out.symm))
              have S1 := Aside0.mk (SA.out.up BX.out)
              clear SA ce0 ce1 ce2 cs0 cs1 cs2 cl0 cl1 x0 xf KC BC BX zc0 zc1 kc0 kc1 e0 e1 e2 ss1 ss2 y0 y1 EC
              generalize ((wb.setCell ⟨gc, 0, none⟩ (.int .i64 (rd_T88 l of).f0)).setCell ⟨gc, 1, none⟩ (.int .i64 (rd_T88 l of).f1)) = w1 at S1 KX ⊢
              have kge0 : w1.cell? ⟨ge, 0, none⟩ = some (.int .i64 2) := (blk_cell S1.out.he 0).trans rfl
              have kge1 : w1.cell? ⟨ge, 1, none⟩ = some (.int .i64 of) := (blk_cell S1.out.he 1).trans rfl
              have kge2 : w1.cell? ⟨ge, 2, none⟩ = some (.int .i64 1) := (blk_cell S1.out.he 2).trans rfl
              have kgs0 : w1.cell? ⟨gs, 0, none⟩ = some (.bool true) := (blk_cell S1.out.hs 0).trans rfl
              have kgs1 : w1.cell? ⟨gs, 1, none⟩ = some (.slice (some ⟨gr, 0, none⟩) ss.length cr) := (blk_cell S1.out.hs 1).trans rfl
              have kgs2 : w1.cell? ⟨gs, 2, none⟩ = some (.slice (some ⟨gb, 0, none⟩) dd.length cd) := (blk_cell S1.out.hs 2).trans rfl
              have kgl0 : w1.cell? ⟨gl, 0, none⟩ = some (.int .i64 n) := (blk_cell S1.out.hl 0).trans rfl
              have kgl1 : w1.cell? ⟨gl, 1, none⟩ = some (.slice (some ad) l.length c) := (blk_cell S1.out.hl 1).trans rfl
              have kc0 : w1.cell? ⟨gc, 0, none⟩ = some (.int .i64 (rd_T88 l of).f0) := (blk_cell KX.out 0).trans rfl
              have kc1 : w1.cell? ⟨gc, 1, none⟩ = some (.int .i64 (rd_T88 l of).f1) := (blk_cell KX.out 1).trans rfl
              go_wp2_with (go_at_call 130; refine (cnt_any _ _ true gs gr ss.length cr _ _ _ _ _ LR1.out S1.out.hs S1.out.H1).mono ?_; rintro e w3 ⟨rfl, hR, hg⟩; have S3 := Aside0.mk (S1.out.sec hR hg); clear hR hg)
              go_meet
              case rel => exact ⟨⟨S3.out⟩, ⟨by unfold doCode; rw [if_pos (by decide), HDO.out]; rfl⟩⟩
          · rcases hop with rfl | rfl
            · go_upto_region 12 with (first | ((with_reducible refine gate_dst (N := 9) rfl ?_); refine box_event ?hg (N := 9) ?hd (cs := #[.int .i64 0, .int .i64 0]) (t := 88) ?hr ?_; (case hd => rfl); (case hg => rfl); (case hr => first | (go_simp; done) | (go_simp; rfl)); intro gc ec wb kc bc; have KC := Aside0.mk kc; have EC := Aside0.mk ec; have BC := Aside0.mk bc; have zc0 := blk_frozen kc 0; have zc1 := blk_frozen kc 1; have kc0 := (blk_cell kc 0).trans (show _ = some (Value.int .i64 0) from rfl); have kc1 := (blk_cell kc 1).trans (show _ = some (Value.int .i64 0) from rfl); have e0 := pw_cell_below bc ce0; have e1 := pw_cell_below bc ce1; have e2 := pw_cell_below bc ce2; have ss1 := pw_cell_below bc cs1; have ss2 := pw_cell_below bc cs2; clear kc ec bc))
              have KX := Aside0.mk (blk_put (blk_put (blk_put (blk_put KC.out 0 (.int .i64 (rd_T88 l of).f0) rfl) 1 (.int .i64 (rd_T88 l of).f1) rfl) 0 (.int .i64 (rd_T88 l of).f1) rfl) 1 (.int .i64 (rd_T88 l of).f0) rfl)
              have BX := Aside0.mk (below_set (j := 1) (v := (.int .i64 (rd_T88 l of).f0)) (below_set (j := 0) (v := (.int .i64 (rd_T88 l of).f1)) (below_set (j := 1) (v := (.int .i64 (rd_T88 l of).f1)) (below_set (j := 0) (v := (.int .i64 (rd_T88 l of).f0)) BC.out (Nat.le_of_eq EC.out.symm)) (Nat.le_of_eq EC.out.symm)) (Nat.le_of_eq EC.out.symm)) (Nat.le_of_eq EC.out.symm))
              have S1 := Aside0.mk (SA.out.up BX.out)
              clear SA ce0 ce1 ce2 cs0 cs1 cs2 cl0 cl1 x0 xf KC BC BX zc0 zc1 kc0 kc1 e0 e1 e2 ss1 ss2 y0 y1 EC
              generalize ((((wb.setCell ⟨gc, 0, none⟩ (.int .i64 (rd_T88 l of).f0)).setCell ⟨gc, 1, none⟩ (.int .i64 (rd_T88 l of).f1)).setCell ⟨gc, 0, none⟩ (.int .i64 (rd_T88 l of).f1)).setCell ⟨gc, 1, none⟩ (.int .i64 (rd_T88 l of).f0)) = w1 at S1 KX ⊢
              have kge0 : w1.cell? ⟨ge, 0, none⟩ = some (.int .i64 1) := (blk_cell S1.out.he 0).trans rfl
              have kge1 : w1.cell? ⟨ge, 1, none⟩ = some (.int .i64 of) := (blk_cell S1.out.he 1).trans rfl
              have kge2 : w1.cell? ⟨ge, 2, none⟩ = some (.int .i64 (-1)) := (blk_cell S1.out.he 2).trans rfl
              have kgs0 : w1.cell? ⟨gs, 0, none⟩ = some (.bool true) := (blk_cell S1.out.hs 0).trans rfl
              have kgs1 : w1.cell? ⟨gs, 1, none⟩ = some (.slice (some ⟨gr, 0, none⟩) ss.length cr) := (blk_cell S1.out.hs 1).trans rfl
              have kgs2 : w1.cell? ⟨gs, 2, none⟩ = some (.slice (some ⟨gb, 0, none⟩) dd.length cd) := (blk_cell S1.out.hs 2).trans rfl
              have kgl0 : w1.cell? ⟨gl, 0, none⟩ = some (.int .i64 n) := (blk_cell S1.out.hl 0).trans rfl
              have kgl1 : w1.cell? ⟨gl, 1, none⟩ = some (.slice (some ad) l.length c) := (blk_cell S1.out.hl 1).trans rfl
              have kc0 : w1.cell? ⟨gc, 0, none⟩ = some (.int .i64 (rd_T88 l of).f1) := (blk_cell KX.out 0).trans rfl
              have kc1 : w1.cell? ⟨gc, 1, none⟩ = some (.int .i64 (rd_T88 l of).f0) := (blk_cell KX.out 1).trans rfl
              go_upto_region 14 with (go_at_call 130; refine (cnt_any _ _ true gs gr ss.length cr _ _ _ _ _ LR1.out S1.out.hs S1.out.H1).mono ?_; rintro e w2 ⟨rfl, hR, hg⟩; have S2 := Aside0.mk (S1.out.sec hR hg); have KY := Aside0.mk (blk_grown KX.out hg (Kd.R_ne S1.out.H1 KX.out (by decide))); clear hR hg)
              clear kge0 kge1 kge2 kgs0 kgs1 kgs2 kgl0 kgl1
              clear kc0 kc1 S1 KX
              have kge0 : w2.cell? ⟨ge, 0, none⟩ = some (.int .i64 1) := (blk_cell S2.out.he 0).trans rfl
              have kge1 : w2.cell? ⟨ge, 1, none⟩ = some (.int .i64 of) := (blk_cell S2.out.he 1).trans rfl
              have kge2 : w2.cell? ⟨ge, 2, none⟩ = some (.int .i64 (-1)) := (blk_cell S2.out.he 2).trans rfl
              have kgs0 : w2.cell? ⟨gs, 0, none⟩ = some (.bool true) := (blk_cell S2.out.hs 0).trans rfl
              have kgs1 : w2.cell? ⟨gs, 1, none⟩ = some (.slice (some ⟨gr, 0, none⟩) ss.length cr) := (blk_cell S2.out.hs 1).trans rfl
              have kgs2 : w2.cell? ⟨gs, 2, none⟩ = some (.slice (some ⟨gb, 0, none⟩) dd.length cd) := (blk_cell S2.out.hs 2).trans rfl
              have kgl0 : w2.cell? ⟨gl, 0, none⟩ = some (.int .i64 n) := (blk_cell S2.out.hl 0).trans rfl
              have kgl1 : w2.cell? ⟨gl, 1, none⟩ = some (.slice (some ad) l.length c) := (blk_cell S2.out.hl 1).trans rfl
              have kc1 : w2.cell? ⟨gc, 1, none⟩ = some (.int .i64 (rd_T88 l of).f0) := (blk_cell KY.out 1).trans rfl
              go_wp2_with (go_at_call 130; refine (cnt_any _ _ true gs gr ss.length cr _ _ _ _ _ LR0.out S2.out.hs S2.out.H1).mono ?_; rintro e w3 ⟨rfl, hR, hg⟩; have S3 := Aside0.mk (S2.out.sec hR hg); clear hR hg)
              go_meet
              case rel => exact ⟨⟨S3.out⟩, ⟨by unfold doCode; rw [if_pos (by decide), HDO.out]; rfl⟩⟩
            · go_upto_region 12 with (first | ((with_reducible refine gate_dst (N := 9) rfl ?_); refine box_event ?hg (N := 9) ?hd (cs := #[.int .i64 0, .int .i64 0]) (t := 88) ?hr ?_; (case hd => rfl); (case hg => rfl); (case hr => first | (go_simp; done) | (go_simp; rfl)); intro gc ec wb kc bc; have KC := Aside0.mk kc; have EC := Aside0.mk ec; have BC := Aside0.mk bc; have zc0 := blk_frozen kc 0; have zc1 := blk_frozen kc 1; have kc0 := (blk_cell kc 0).trans (show _ = some (Value.int .i64 0) from rfl); have kc1 := (blk_cell kc 1).trans (show _ = some (Value.int .i64 0) from rfl); have e0 := pw_cell_below bc ce0; have e1 := pw_cell_below bc ce1; have e2 := pw_cell_below bc ce2; have ss1 := pw_cell_below bc cs1; have ss2 := pw_cell_below bc cs2; clear kc ec bc))
              have KX := Aside0.mk (blk_put (blk_put (blk_put (blk_put KC.out 0 (.int .i64 (rd_T88 l of).f0) rfl) 1 (.int .i64 (rd_T88 l of).f1) rfl) 0 (.int .i64 (rd_T88 l of).f1) rfl) 1 (.int .i64 (rd_T88 l of).f0) rfl)
              have BX := Aside0.mk (below_set (j := 1) (v := (.int .i64 (rd_T88 l of).f0)) (below_set (j := 0) (v := (.int .i64 (rd_T88 l of).f1)) (below_set (j := 1) (v := (.int .i64 (rd_T88 l of).f1)) (below_set (j := 0) (v := (.int .i64 (rd_T88 l of).f0)) BC.out (Nat.le_of_eq EC.out.symm)) (Nat.le_of_eq EC.out.symm)) (Nat.le_of_eq EC.out.symm)) (Nat.le_of_eq EC.out.symm))
              have S1 := Aside0.mk (SA.out.up BX.out)
              clear SA ce0 ce1 ce2 cs0 cs1 cs2 cl0 cl1 x0 xf KC BC BX zc0 zc1 kc0 kc1 e0 e1 e2 ss1 ss2 y0 y1 EC
              generalize ((((wb.setCell ⟨gc, 0, none⟩ (.int .i64 (rd_T88 l of).f0)).setCell ⟨gc, 1, none⟩ (.int .i64 (rd_T88 l of).f1)).setCell ⟨gc, 0, none⟩ (.int .i64 (rd_T88 l of).f1)).setCell ⟨gc, 1, none⟩ (.int .i64 (rd_T88 l of).f0)) = w1 at S1 KX ⊢
              have kge0 : w1.cell? ⟨ge, 0, none⟩ = some (.int .i64 2) := (blk_cell S1.out.he 0).trans rfl
              have kge1 : w1.cell? ⟨ge, 1, none⟩ = some (.int .i64 of) := (blk_cell S1.out.he 1).trans rfl
              have kge2 : w1.cell? ⟨ge, 2, none⟩ = some (.int .i64 (-1)) := (blk_cell S1.out.he 2).trans rfl
              have kgs0 : w1.cell? ⟨gs, 0, none⟩ = some (.bool true) := (blk_cell S1.out.hs 0).trans rfl
              have kgs1 : w1.cell? ⟨gs, 1, none⟩ = some (.slice (some ⟨gr, 0, none⟩) ss.length cr) := (blk_cell S1.out.hs 1).trans rfl
              have kgs2 : w1.cell? ⟨gs, 2, none⟩ = some (.slice (some ⟨gb, 0, none⟩) dd.length cd) := (blk_cell S1.out.hs 2).trans rfl
              have kgl0 : w1.cell? ⟨gl, 0, none⟩ = some (.int .i64 n) := (blk_cell S1.out.hl 0).trans rfl
              have kgl1 : w1.cell? ⟨gl, 1, none⟩ = some (.slice (some ad) l.length c) := (blk_cell S1.out.hl 1).trans rfl
              have kc0 : w1.cell? ⟨gc, 0, none⟩ = some (.int .i64 (rd_T88 l of).f1) := (blk_cell KX.out 0).trans rfl
              have kc1 : w1.cell? ⟨gc, 1, none⟩ = some (.int .i64 (rd_T88 l of).f0) := (blk_cell KX.out 1).trans rfl
              go_wp2_with (go_at_call 130; refine (cnt_any _ _ true gs gr ss.length cr _ _ _ _ _ LR0.out S1.out.hs S1.out.H1).mono ?_; rintro e w3 ⟨rfl, hR, hg⟩; have S3 := Aside0.mk (S1.out.sec hR hg); clear hR hg)
              go_meet
              case rel => exact ⟨⟨S3.out⟩, ⟨by unfold doCode; rw [if_pos (by decide), HDO.out]; rfl⟩⟩
      · have lr := lay_rd hl of ho0 ho1
        have ho2 := ho1
        rw [← hnd] at ho1
        obtain ⟨gb, cb, e, _, _, _⟩ := Kd.R_form SA.out.H2 (show 0 < dd.length by omega)
        cases e
        obtain ⟨x0, xf⟩ := bool_at SA.out.H2 of ho0 ho1
        obtain ⟨ad, e, y0, y1⟩ := at_T88 HR.out of ho0 (by omega)
        subst e
        have lr0 : (rd_T88 l of).f0 < (ss.length : Int) := by omega
        have lr1 : (rd_T88 l of).f1 < (ss.length : Int) := by omega
        have LR0 := Aside0.mk lr0
        have LR1 := Aside0.mk lr1
        clear lr lr0 lr1 hl hns hnd hev hln
        have Y0 := Aside0.mk y0
        have Y1 := Aside0.mk y1
        clear y0 y1
        rcases hop with rfl | rfl
        · go_upto_region 17 with fail
          have S1 := Aside0.mk (SA.out.dead of true)
          clear SA ce0 ce1 ce2 cs0 cs1 cs2 cl0 cl1 x0 xf
          generalize wc.setCell ⟨gb, of.toNat, none⟩ (.bool true) = w1 at S1 ⊢
          have kge0 : w1.cell? ⟨ge, 0, none⟩ = some (.int .i64 3) := (blk_cell S1.out.he 0).trans rfl
          have kge1 : w1.cell? ⟨ge, 1, none⟩ = some (.int .i64 of) := (blk_cell S1.out.he 1).trans rfl
          have kge2 : w1.cell? ⟨ge, 2, none⟩ = some (.int .i64 dir) := (blk_cell S1.out.he 2).trans rfl
          have kgs0 : w1.cell? ⟨gs, 0, none⟩ = some (.bool true) := (blk_cell S1.out.hs 0).trans rfl
          have kgs1 : w1.cell? ⟨gs, 1, none⟩ = some (.slice (some ⟨gr, 0, none⟩) ss.length cr) := (blk_cell S1.out.hs 1).trans rfl
          have kgs2 : w1.cell? ⟨gs, 2, none⟩ = some (.slice (some ⟨gb, 0, none⟩) dd.length cd) := (blk_cell S1.out.hs 2).trans rfl
          have kgl0 : w1.cell? ⟨gl, 0, none⟩ = some (.int .i64 n) := (blk_cell S1.out.hl 0).trans rfl
          have kgl1 : w1.cell? ⟨gl, 1, none⟩ = some (.slice (some ad) l.length c) := (blk_cell S1.out.hl 1).trans rfl
          have y0 := pw_cell_below S1.out.hB Y0.out
          have y1 := pw_cell_below S1.out.hB Y1.out
          go_upto_region 18 with (go_at_call 131; refine (lose_any _ true gs gr ss.length cr _ _ _ _ _ LR0.out S1.out.hs S1.out.H1).mono ?_; rintro e w2 ⟨rfl, hR, hg⟩; have S2 := Aside0.mk (S1.out.sec hR hg); clear hR hg)
          clear kge0 kge1 kge2 kgs0 kgs1 kgs2 kgl0 kgl1
          clear y0 y1 S1
          have kge0 : w2.cell? ⟨ge, 0, none⟩ = some (.int .i64 3) := (blk_cell S2.out.he 0).trans rfl
          have kge1 : w2.cell? ⟨ge, 1, none⟩ = some (.int .i64 of) := (blk_cell S2.out.he 1).trans rfl
          have kge2 : w2.cell? ⟨ge, 2, none⟩ = some (.int .i64 dir) := (blk_cell S2.out.he 2).trans rfl
          have kgs0 : w2.cell? ⟨gs, 0, none⟩ = some (.bool true) := (blk_cell S2.out.hs 0).trans rfl
          have kgs1 : w2.cell? ⟨gs, 1, none⟩ = some (.slice (some ⟨gr, 0, none⟩) ss.length cr) := (blk_cell S2.out.hs 1).trans rfl
          have kgs2 : w2.cell? ⟨gs, 2, none⟩ = some (.slice (some ⟨gb, 0, none⟩) dd.length cd) := (blk_cell S2.out.hs 2).trans rfl
          have kgl0 : w2.cell? ⟨gl, 0, none⟩ = some (.int .i64 n) := (blk_cell S2.out.hl 0).trans rfl
          have kgl1 : w2.cell? ⟨gl, 1, none⟩ = some (.slice (some ad) l.length c) := (blk_cell S2.out.hl 1).trans rfl
          have y0 := pw_cell_below S2.out.hB Y0.out
          have y1 := pw_cell_below S2.out.hB Y1.out
          go_wp2_with (go_at_call 131; refine (lose_any _ true gs gr ss.length cr _ _ _ _ _ LR1.out S2.out.hs S2.out.H1).mono ?_; rintro e w3 ⟨rfl, hR, hg⟩; have S3 := Aside0.mk (S2.out.sec hR hg); clear hR hg)
          go_meet
          case rel => exact ⟨⟨S3.out⟩, ⟨rfl⟩⟩
        · go_wp2_with fail
          go_meet
          case rel => exact ⟨⟨SA.out.dead of false⟩, ⟨rfl⟩⟩
      · rw [← hns] at ho1
        obtain ⟨z0, z1, z2, z3, z4, zf0, zf1, zf2, zf3, zf4⟩ := sec_at SA.out.H1 of ho0 ho1
        have hll : l.length ≤ 1048576 := by omega
        have HLL := Aside0.mk hll
        have HND := Aside0.mk hnd
        have HO0 := Aside0.mk ho0
        have HO1 := Aside0.mk ho1
        clear hl hns hnd hev hln hll z0 z1 z2 z3 z4 zf0 zf1 zf2 zf3 zf4
        rcases Bool.eq_false_or_eq_true (deadAt l dd of) with hdo | hdo
        · have HDO := Aside0.mk hdo
          clear hdo
          have HC2 := Aside0.mk (show doCode l ss dd 5 of = 3 by unfold doCode; rw [if_neg (by decide), if_pos rfl, if_pos HDO.out])
          go_upto_region 23 with (go_at_call 98; refine (dead_at of HDO.out (Kd.C_below HR.out SA.out.hB) hc (Kd.R_reads' SA.out.H1).2.2 (Kd.R_reads' SA.out.H1).2.1 (Kd.R_reads' SA.out.H2).2.2 (Kd.R_reads' SA.out.H2).2.1 HLL.out HND.out).mono ?_; rintro e w1 ⟨rfl, hb⟩; have S1 := Aside0.mk (SA.out.up hb); clear hb)
          clear ce0 ce1 ce2 cs0 cs1 cs2 cl0 cl1 SA
          have kge0 : w1.cell? ⟨ge, 0, none⟩ = some (.int .i64 5) := (blk_cell S1.out.he 0).trans rfl
          have kge1 : w1.cell? ⟨ge, 1, none⟩ = some (.int .i64 of) := (blk_cell S1.out.he 1).trans rfl
          have kge2 : w1.cell? ⟨ge, 2, none⟩ = some (.int .i64 dir) := (blk_cell S1.out.he 2).trans rfl
          have kgs0 : w1.cell? ⟨gs, 0, none⟩ = some (.bool true) := (blk_cell S1.out.hs 0).trans rfl
          have kgs1 : w1.cell? ⟨gs, 1, none⟩ = some (.slice (some ⟨gr, 0, none⟩) ss.length cr) := (blk_cell S1.out.hs 1).trans rfl
          have kgs2 : w1.cell? ⟨gs, 2, none⟩ = some (.slice Ad dd.length cd) := (blk_cell S1.out.hs 2).trans rfl
          have kgl0 : w1.cell? ⟨gl, 0, none⟩ = some (.int .i64 n) := (blk_cell S1.out.hl 0).trans rfl
          have kgl1 : w1.cell? ⟨gl, 1, none⟩ = some (.slice A l.length c) := (blk_cell S1.out.hl 1).trans rfl
          have kd0 : w1.cell? ⟨gd, 0, none⟩ = some (.int .i64 0) := (blk_cell S1.out.hd 0).trans rfl
          have kz0 := blk_frozen S1.out.hd 0
          have kd1 : w1.cell? ⟨gd, 1, none⟩ = some (.bool false) := (blk_cell S1.out.hd 1).trans rfl
          have kz1 := blk_frozen S1.out.hd 1
          have kd2 : w1.cell? ⟨gd, 2, none⟩ = some (.slice none 0 0) := (blk_cell S1.out.hd 2).trans rfl
          have kz2 := blk_frozen S1.out.hd 2
          have kd3 : w1.cell? ⟨gd, 3, none⟩ = some (.slice none 0 0) := (blk_cell S1.out.hd 3).trans rfl
          have kz3 := blk_frozen S1.out.hd 3
          go_wp2_with fail
          have SF := S1.out.fill (y0 := .int .i64 3) (y1 := .bool true) (y2 := (.slice (some ⟨gr, 0, none⟩) ss.length cr)) (y3 := (.slice Ad dd.length cd))
          refine bodyPost_ret (results_cell_row rfl _ _ gd 48 _ (0, 0) _ rfl SF.hd Try.underlying48 rfl (by kernel_rfl)) rfl ⟨_, _, by rw [HC2.out], ?_, ?_, SF.hB⟩
          · unfold doSecs; rw [HC2.out]; exact SF.H1
          · unfold doDead; rw [HC2.out]; exact SF.H2
        · have HDO := Aside0.mk hdo
          clear hdo
          go_upto_region 24 with (go_at_call 98; refine (dead_at of HDO.out (Kd.C_below HR.out SA.out.hB) hc (Kd.R_reads' SA.out.H1).2.2 (Kd.R_reads' SA.out.H1).2.1 (Kd.R_reads' SA.out.H2).2.2 (Kd.R_reads' SA.out.H2).2.1 HLL.out HND.out).mono ?_; rintro e w1 ⟨rfl, hb⟩; have S1 := Aside0.mk (SA.out.up hb); clear hb)
          clear ce0 ce1 ce2 cs0 cs1 cs2 cl0 cl1 SA
          have kge0 : w1.cell? ⟨ge, 0, none⟩ = some (.int .i64 5) := (blk_cell S1.out.he 0).trans rfl
          have kge1 : w1.cell? ⟨ge, 1, none⟩ = some (.int .i64 of) := (blk_cell S1.out.he 1).trans rfl
          have kge2 : w1.cell? ⟨ge, 2, none⟩ = some (.int .i64 dir) := (blk_cell S1.out.he 2).trans rfl
          have kgs0 : w1.cell? ⟨gs, 0, none⟩ = some (.bool true) := (blk_cell S1.out.hs 0).trans rfl
          have kgs1 : w1.cell? ⟨gs, 1, none⟩ = some (.slice (some ⟨gr, 0, none⟩) ss.length cr) := (blk_cell S1.out.hs 1).trans rfl
          have kgs2 : w1.cell? ⟨gs, 2, none⟩ = some (.slice Ad dd.length cd) := (blk_cell S1.out.hs 2).trans rfl
          have kgl0 : w1.cell? ⟨gl, 0, none⟩ = some (.int .i64 n) := (blk_cell S1.out.hl 0).trans rfl
          have kgl1 : w1.cell? ⟨gl, 1, none⟩ = some (.slice A l.length c) := (blk_cell S1.out.hl 1).trans rfl
          have ho0 := HO0.out
          have ho1 := HO1.out
          obtain ⟨z0, z1, z2, z3, z4, zf0, zf1, zf2, zf3, zf4⟩ := sec_at S1.out.H1 of ho0 ho1
          by_cases hla : (rd_T50 ss of).f4 = 1
          · have hla1 : ((rd_T50 ss of).f4 == 1) = true := beq_iff_eq.mpr hla
            have HC2 := Aside0.mk (show doCode l ss dd 5 of = 4 by unfold doCode; rw [if_neg (by decide), if_pos rfl, HDO.out, if_neg (by decide), if_pos hla])
            clear hla
            have kd0 : w1.cell? ⟨gd, 0, none⟩ = some (.int .i64 0) := (blk_cell S1.out.hd 0).trans rfl
            have kz0 := blk_frozen S1.out.hd 0
            have kd1 : w1.cell? ⟨gd, 1, none⟩ = some (.bool false) := (blk_cell S1.out.hd 1).trans rfl
            have kz1 := blk_frozen S1.out.hd 1
            have kd2 : w1.cell? ⟨gd, 2, none⟩ = some (.slice none 0 0) := (blk_cell S1.out.hd 2).trans rfl
            have kz2 := blk_frozen S1.out.hd 2
            have kd3 : w1.cell? ⟨gd, 3, none⟩ = some (.slice none 0 0) := (blk_cell S1.out.hd 3).trans rfl
            have kz3 := blk_frozen S1.out.hd 3
            go_wp2_with fail
            have SF := S1.out.fill (y0 := .int .i64 4) (y1 := .bool true) (y2 := (.slice (some ⟨gr, 0, none⟩) ss.length cr)) (y3 := (.slice Ad dd.length cd))
            refine bodyPost_ret (results_cell_row rfl _ _ gd 48 _ (0, 0) _ rfl SF.hd Try.underlying48 rfl (by kernel_rfl)) rfl ⟨_, _, by rw [HC2.out], ?_, ?_, SF.hB⟩
            · unfold doSecs; rw [HC2.out]; exact SF.H1
            · unfold doDead; rw [HC2.out]; exact SF.H2
          · have hla1 : ((rd_T50 ss of).f4 == 1) = false := beq_eq_false_iff_ne.mpr hla
            have HC2 := Aside0.mk (show doCode l ss dd 5 of = 0 by unfold doCode; rw [if_neg (by decide), if_pos rfl, HDO.out, if_neg (by decide), if_neg hla])
            clear hla
            go_wp2_with fail
            go_meet
            case rel =>
              obtain ⟨hR, hg⟩ := ((((SecSt.start S1.out.H1 HO0.out HO1.out).put0 HO0.out HO1.out (u := 0) rfl).put1 HO0.out HO1.out (u := 0) rfl).put2 HO0.out HO1.out (u := false) rfl |>.put3 HO0.out HO1.out (u := true) rfl).put4 HO0.out HO1.out (u := 0) rfl
              exact ⟨⟨S1.out.sec hR hg⟩, HC2⟩
    case rest =>
      obtain ⟨SM, HC0⟩ := hcut
      have HLM := Aside0.mk (midSecs_length l ss op of dir)
      have HLD := Aside0.mk (midDead_length dd op of)
      have HDS := Aside0.mk (show retold l (midDead dd op of) (midSecs l ss op of dir) = doSecs l ss dd op of dir by unfold doSecs; rw [if_pos HC0.out])
      have HDD := Aside0.mk (show midDead dd op of = doDead l ss dd op of by unfold doDead; rw [if_pos HC0.out])
      clear SA ce0 ce1 ce2 cs0 cs1 cs2 cl0 cl1
      generalize midSecs l ss op of dir = ms at SM HLM HDS
      generalize midDead dd op of = md at SM HLD HDS HDD
      have kge0 : wc.cell? ⟨ge, 0, none⟩ = some (.int .i64 op) := (blk_cell SM.out.he 0).trans rfl
      have kge1 : wc.cell? ⟨ge, 1, none⟩ = some (.int .i64 of) := (blk_cell SM.out.he 1).trans rfl
      have kge2 : wc.cell? ⟨ge, 2, none⟩ = some (.int .i64 dir) := (blk_cell SM.out.he 2).trans rfl
      have kgs0 : wc.cell? ⟨gs, 0, none⟩ = some (.bool true) := (blk_cell SM.out.hs 0).trans rfl
      have kgs1 : wc.cell? ⟨gs, 1, none⟩ = some (.slice (some ⟨gr, 0, none⟩) ss.length cr) := (blk_cell SM.out.hs 1).trans rfl
      have kgs2 : wc.cell? ⟨gs, 2, none⟩ = some (.slice Ad dd.length cd) := (blk_cell SM.out.hs 2).trans rfl
      have kgl0 : wc.cell? ⟨gl, 0, none⟩ = some (.int .i64 n) := (blk_cell SM.out.hl 0).trans rfl
      have kgl1 : wc.cell? ⟨gl, 1, none⟩ = some (.slice A l.length c) := (blk_cell SM.out.hl 1).trans rfl
      go_wp2_with fail
      go_loopg [119] ss.length (fun kq v w' => ∃ j : Nat, v = .int .i64 j ∧ Aside0 (j + kq = ss.length) ∧ Aside0 (DoSt w w' gl gs ge gd [.int .i64 n, .slice A l.length c] [.bool true, .slice (some ⟨gr, 0, none⟩) ss.length cr, .slice Ad dd.length cd] [.int .i64 op, .int .i64 of, .int .i64 dir] [.int .i64 0, .bool false, .slice none 0 0, .slice none 0 0] (.slice (some ⟨gr, 0, none⟩) ss.length cr) (.slice Ad dd.length cd) (retoldTo l md ms j) md))
      case atStart => exact ⟨0, rfl, ⟨by omega⟩, ⟨by rw [retoldTo_zero]; exact SM.out⟩⟩
      case round =>
        obtain ⟨j, rfl, HJ, SL⟩ := hrel
        clear kge0 kge1 kge2 kgs0 kgs1 kgs2 kgl0 kgl1
        clear SM
        by_cases hlt : j < ss.length
        · cases gk with
          | zero => exact absurd HJ.out (by omega)
          | succ gk =>
            have hlt' : decide ((j : Int) < (ss.length : Int)) = true := decide_eq_true (by omega)
            have q0 : (0 : Int) ≤ (j : Int) := by omega
            have q1 : (j : Int) < (ss.length : Int) := by omega
            have q2 : ss.length ≤ 60 := by have := lay_n HN.out.1; have := HN.out.2.1; omega
            go_upto_block 2 with fail
            go_cut [11] from 121 to 130 (fun v11 wx => Aside0 (DoSt w wx gl gs ge gd [.int .i64 n, .slice A l.length c] [.bool true, .slice (some ⟨gr, 0, none⟩) ss.length cr, .slice Ad dd.length cd] [.int .i64 op, .int .i64 of, .int .i64 dir] [.int .i64 0, .bool false, .slice none 0 0, .slice none 0 0] (.slice (some ⟨gr, 0, none⟩) ss.length cr) (.slice Ad dd.length cd) (retoldTo l md ms (j + 1)) md))
            case first =>
              have HLL := Aside0.mk (show l.length ≤ 1048576 by have := lay_n HN.out.1; omega)
              have HML := Aside0.mk (show md.length = l.length by rw [HLD.out]; exact HN.out.2.2.1)
              have n1 : gr ≠ gs := fun e => Kd.R_ne SL.out.H1 SL.out.hs (by decide) (by rw [e]; rfl)
              have n2 : gr ≠ gl := fun e => Kd.R_ne SL.out.H1 SL.out.hl (by decide) (by rw [e]; rfl)
              have kgs0 : wr.cell? ⟨gs, 0, none⟩ = some (.bool true) := (blk_cell SL.out.hs 0).trans rfl
              have kgs1 : wr.cell? ⟨gs, 1, none⟩ = some (.slice (some ⟨gr, 0, none⟩) ss.length cr) := (blk_cell SL.out.hs 1).trans rfl
              have kgs2 : wr.cell? ⟨gs, 2, none⟩ = some (.slice Ad dd.length cd) := (blk_cell SL.out.hs 2).trans rfl
              have kgl0 : wr.cell? ⟨gl, 0, none⟩ = some (.int .i64 n) := (blk_cell SL.out.hl 0).trans rfl
              have kgl1 : wr.cell? ⟨gl, 1, none⟩ = some (.slice A l.length c) := (blk_cell SL.out.hl 1).trans rfl
              have SD := Aside0.mk (SL.out.up (below_drew1 (Below.refl _ _)))
              have hln : ss.length = (retoldTo l md ms j).length := by rw [retoldTo_length, HLM.out]
              have HLN := Aside0.mk hln
              have HLM2 := Aside0.mk (show dd.length = md.length from HLD.out.symm)
              clear hln
              go_upto_region 31 with fail
              go_region_held3 (fun w' => w'.cell? ⟨gl, 0, none⟩ = some (.int .i64 n) ∧ w'.cell? ⟨gl, 1, none⟩ = some (.slice A l.length c) ∧ w'.cell? ⟨gs, 0, none⟩ = some (.bool true) ∧ w'.cell? ⟨gs, 1, none⟩ = some (.slice (some ⟨gr, 0, none⟩) ss.length cr) ∧ w'.cell? ⟨gs, 2, none⟩ = some (.slice Ad dd.length cd))
                (first | go_keep | (go_split_ands; (repeat' apply And.intro) <;> (refine pw_cell_below hb ?_; assumption)) | (go_split_ands; (repeat' apply And.intro) <;> (rw [World.cell?_setCell_far _ _ _ _ (by assumption)]; assumption)))
                (first | (go_at_call 97; refine (told_of (j : Int) (Kd.C_below HR.out SD.out.hB) hc SD.out.H1 SD.out.H2 HLN.out HLM2.out HLL.out HML.out q0 q1).mono ?_; rintro e w' ⟨rfl, hb⟩; have S2 := Aside0.mk (SD.out.up hb); obtain ⟨z0, z1, z2, z3, z4, zf0, zf1, zf2, zf3, zf4⟩ := sec_at S2.out.H1 (j : Int) q0 q1; rw [Int.toNat_natCast] at z0 zf0; clear z1 z2 z3 z4 zf1 zf2 zf3 zf4))
              all_goals (go_wp2_with fail; go_meet)
              obtain ⟨hR, hg⟩ := (SecSt.start S2.out.H1 q0 q1).put0 q0 q1 (u := toldC l md (j : Int) (rd_T50 (retoldTo l md ms j) (j : Int))) (show j * 5 = (j : Int).toNat * 5 + 0 by rw [Int.toNat_natCast, Nat.add_zero])
              rw [retold_step l md ms j (by rw [HLM.out]; exact hlt)] at hR
              exact ⟨S2.out.sec hR hg⟩
            case rest =>
              go_wp2_with fail
              go_roundg gk
              case measure => omega
              case rel => exact ⟨j + 1, by go_num, ⟨by have := HJ.out; omega⟩, hcut⟩
        · have hlt' : decide ((j : Int) < (ss.length : Int)) = false := decide_eq_false (by omega)
          have hj : j = ss.length := by have := HJ.out; omega
          have hre : retoldTo l md ms j = retold l md ms := by rw [retold, HLM.out, hj]
          have SF0 := Aside0.mk (show DoSt w wr gl gs ge gd [.int .i64 n, .slice A l.length c] [.bool true, .slice (some ⟨gr, 0, none⟩) ss.length cr, .slice Ad dd.length cd] [.int .i64 op, .int .i64 of, .int .i64 dir] [.int .i64 0, .bool false, .slice none 0 0, .slice none 0 0] (.slice (some ⟨gr, 0, none⟩) ss.length cr) (.slice Ad dd.length cd) (doSecs l ss dd op of dir) (doDead l ss dd op of) by rw [← HDS.out, ← HDD.out, ← hre]; exact SL.out)
          clear hj hre SL
          have kgs0 : wr.cell? ⟨gs, 0, none⟩ = some (.bool true) := (blk_cell SF0.out.hs 0).trans rfl
          have kgs1 : wr.cell? ⟨gs, 1, none⟩ = some (.slice (some ⟨gr, 0, none⟩) ss.length cr) := (blk_cell SF0.out.hs 1).trans rfl
          have kgs2 : wr.cell? ⟨gs, 2, none⟩ = some (.slice Ad dd.length cd) := (blk_cell SF0.out.hs 2).trans rfl
          have kd0 : wr.cell? ⟨gd, 0, none⟩ = some (.int .i64 0) := (blk_cell SF0.out.hd 0).trans rfl
          have kz0 := blk_frozen SF0.out.hd 0
          have kd1 : wr.cell? ⟨gd, 1, none⟩ = some (.bool false) := (blk_cell SF0.out.hd 1).trans rfl
          have kz1 := blk_frozen SF0.out.hd 1
          have kd2 : wr.cell? ⟨gd, 2, none⟩ = some (.slice none 0 0) := (blk_cell SF0.out.hd 2).trans rfl
          have kz2 := blk_frozen SF0.out.hd 2
          have kd3 : wr.cell? ⟨gd, 3, none⟩ = some (.slice none 0 0) := (blk_cell SF0.out.hd 3).trans rfl
          have kz3 := blk_frozen SF0.out.hd 3
          go_wp2_with fail
          have SF := SF0.out.fill (y0 := .int .i64 0) (y1 := .bool true) (y2 := (.slice (some ⟨gr, 0, none⟩) ss.length cr)) (y3 := (.slice Ad dd.length cd))
          exact bodyPost_ret (results_cell_row rfl _ _ gd 48 _ (0, 0) _ rfl SF.hd Try.underlying48 rfl (by kernel_rfl)) rfl ⟨_, _, by rw [HC0.out], SF.H1, SF.H2, SF.hB⟩
end Go.Proofs.Ytpdnabhpkdchjaa.P
namespace Go.Proofs.Ytpdnabhpkdchjaa.P
open Go.RowKit Go.Proofs.YtpdnabhpkdchjaaW.PrintWords Go.Proofs.YtpdnabhpkdchjaaW.PrintLast Go.Proofs.YtpdnabhpkdchjaaW.PrintMore
set_option linter.unusedVariables false
structure RnSt (w0 w : World) (gl gs : Nat) (lv sv : List Value) (u1 u2 : Value) (s : S46) (v : Value) (out : List S48) : Prop where
  hl : w.heap[gl]? = some (.cells lv.toArray 30 (0, 0))
  hs : w.heap[gs]? = some (.cells sv.toArray 46 (0, 0))
  V1 : Kd.V k50 50 w w0.heap.size (fun k => some k = u1.ownBlock) u1 s.f1
  V2 : Kd.V Kd.bool 4 w w0.heap.size (fun k => some k = u2.ownBlock) u2 s.f2
  HS : Kd.S k48 48 w w0.heap.size (fun _ => True) v out
  hB : Below w0.heap.size w0 w
  gle : w0.heap.size ≤ gl
  gse : w0.heap.size ≤ gs
structure MdSt (w0 wr w : World) (gl gs gd : Nat) (lv sv dv : List Value) (v2 v3 : Value) (ss : List S50) (dd : List Bool) (v : Value) (out : List S48) : Prop where
  hl : w.heap[gl]? = some (.cells lv.toArray 30 (0, 0))
  hs : w.heap[gs]? = some (.cells sv.toArray 46 (0, 0))
  hd : w.heap[gd]? = some (.cells dv.toArray 48 (0, 0))
  R1 : Kd.R k50 50 w wr.heap.size (fun _ => True) v2 ss
  R2 : Kd.R Kd.bool 4 w wr.heap.size (fun _ => True) v3 dd
  HS : Kd.S k48 48 w w0.heap.size (fun k => k < wr.heap.size) v out
  hB : Below w0.heap.size w0 w
  gle : w0.heap.size ≤ gl
  gse : w0.heap.size ≤ gs
  gde : wr.heap.size ≤ gd
  hw : w0.heap.size ≤ wr.heap.size
section
variable {w0 wr w w' w1 : World} {gl gs gd : Nat} {lv sv dv : List Value} {u1 u2 v v1 v2 v3 : Value} {s : S46} {ss : List S50} {dd : List Bool} {out : List S48}
theorem RnSt.up (h : RnSt w0 w gl gs lv sv u1 u2 s v out) (hb : Below w.heap.size w w') : RnSt w0 w' gl gs lv sv u1 u2 s v out where
  hl := blk_below h.hl hb
  hs := blk_below h.hs hb
  V1 := Kd.V_below h.V1 hb
  V2 := Kd.V_below h.V2 hb
  HS := Kd.S_below h.HS hb
  hB := below_step h.hB hb
  gle := h.gle
  gse := h.gse
theorem RnSt.mid (h : RnSt w0 wr gl gs lv sv u1 u2 s v out) (hb : Below wr.heap.size wr w) (hd : w.heap[gd]? = some (.cells dv.toArray 48 (0, 0))) (gde : wr.heap.size ≤ gd) (R1 : Kd.R k50 50 w wr.heap.size (fun _ => True) v2 ss) (R2 : Kd.R Kd.bool 4 w wr.heap.size (fun _ => True) v3 dd) :
    MdSt w0 wr w gl gs gd lv sv dv v2 v3 ss dd v out where
  hl := blk_below h.hl hb
  hs := blk_below h.hs hb
  hd := hd
  R1 := R1
  R2 := R2
  HS := Kd.S_below (Kd.S_mono (Kd.S_bound h.HS) (fun _ hk => hk.2.2.1)) hb
  hB := below_step h.hB hb
  gle := h.gle
  gse := h.gse
  gde := gde
  hw := h.hB.size
def okp (v2 v3 : Value) (k : Nat) : Prop := some k = v2.ownBlock ∨ some k = v3.ownBlock
theorem own_from {α : Type} {d : Kd α} {e : Nat} {base : Nat} {ok : Nat → Prop} {xs : List α} (h : d.R e w base ok v xs) (k : Nat) (hk : v.ownBlock = some k) : base ≤ k := by
  rcases Kd.R_base2 h with h2 | ⟨j, h2, h3⟩
  · rw [h2] at hk; cases hk
  · rw [h2] at hk; cases hk; exact h3
theorem MdSt.okp_new (h : MdSt w0 wr w gl gs gd lv sv dv v2 v3 ss dd v out) {k : Nat} (hk : okp v2 v3 k) : wr.heap.size ≤ k := by
  rcases hk with hk | hk
  · exact own_from h.R1 k hk.symm
  · exact own_from h.R2 k hk.symm
theorem MdSt.okp_ne (h : MdSt w0 wr w gl gs gd lv sv dv v2 v3 ss dd v out) {k : Nat} (hk : okp v2 v3 k) : some k ≠ v.ownBlock := by
  intro e
  have h1 := h.okp_new hk
  have h2 : k < wr.heap.size := (Kd.S_R h.HS).1 k e.symm
  omega
theorem MdSt.rest (h : MdSt w0 wr w gl gs gd lv sv dv v2 v3 ss dd v out) : Kd.S k48 48 w w0.heap.size (fun k => True ∧ ¬ okp v2 v3 k) v out :=
  Kd.S_mono h.HS (fun k hk => ⟨trivial, fun hp => by have := h.okp_new hp; omega⟩)
theorem MdSt.elem (h : MdSt w0 wr w gl gs gd lv sv dv v2 v3 ss dd v out) (code : Int) (b : Bool) : k48.M w w0.heap.size (okp v2 v3) ⟨code, ⟨b, ss, dd⟩⟩ [.int .i64 code, .bool b, v2, v3] :=
  k48_mkM w _ _ ⟨code, ⟨b, ss, dd⟩⟩ (Kd.R_mono (Kd.R_tight rfl (Kd.R_lower h.R1 h.hw)) (fun _ hk => .inl hk)) (Kd.R_mono (Kd.R_tight rfl (Kd.R_lower h.R2 h.hw)) (fun _ hk => .inr hk))
theorem MdSt.fin {x0 x1 x2 : Value} (h : MdSt w0 wr w gl gs gd lv [x0, x1, x2] dv v2 v3 ss dd v out) {code : Int} {b : Bool} (HS1 : Kd.S k48 48 w1 w0.heap.size (fun _ => True) v1 (out ++ [⟨code, ⟨b, ss, dd⟩⟩])) (hB1 : Below w0.heap.size w0 w1) (hg : w.grownBy w1 v.ownBlock) :
    RnSt w0 (((w1.setCell ⟨gs, 0, none⟩ (.bool b)).setCell ⟨gs, 1, none⟩ v2).setCell ⟨gs, 2, none⟩ v3) gl gs lv [.bool b, v2, v3] v2 v3 ⟨b, ss, dd⟩ v1 (out ++ [⟨code, ⟨b, ss, dd⟩⟩]) := by
  have ngs : ∀ k, some k = v2.ownBlock → k ≠ gs := fun k hk e => Kd.R_ne h.R1 h.hs (by decide) (e ▸ hk)
  have ngs3 : ∀ k, some k = v3.ownBlock → k ≠ gs := fun k hk e => Kd.R_ne h.R2 h.hs (by decide) (e ▸ hk)
  have hl1 := blk_grown h.hl hg (Kd.S_ne h.HS h.hl (by decide))
  have hs1 := blk_grown h.hs hg (Kd.S_ne h.HS h.hs (by decide))
  have ne := blk_ne hl1 hs1 (by decide)
  have W1 : Kd.V k50 50 w1 w0.heap.size (fun k => some k = v2.ownBlock) v2 ss := Kd.V_grown (Kd.R_V (Kd.R_tight rfl h.R1)) hg (fun k hk => h.okp_ne (.inl hk))
  have W2 : Kd.V Kd.bool 4 w1 w0.heap.size (fun k => some k = v3.ownBlock) v3 dd := Kd.V_grown (Kd.R_V (Kd.R_tight rfl h.R2)) hg (fun k hk => h.okp_ne (.inr hk))
  have hq : ∀ q, q ∈ 48 :: k48.E → q ≠ 46 := by decide
  have s0 := blk_put hs1 0 (.bool b) rfl
  have s1 := blk_put s0 1 v2 rfl
  have s2 := blk_put s1 2 v3 rfl
  exact {
    hl := blk_far (blk_far (blk_far hl1 ne _) ne _) ne _
    hs := s2
    V1 := Kd.V_far (Kd.V_far (Kd.V_far W1 (p := ⟨gs, 0, none⟩) ngs _) (p := ⟨gs, 1, none⟩) ngs _) (p := ⟨gs, 2, none⟩) ngs _
    V2 := Kd.V_far (Kd.V_far (Kd.V_far W2 (p := ⟨gs, 0, none⟩) ngs3 _) (p := ⟨gs, 1, none⟩) ngs3 _) (p := ⟨gs, 2, none⟩) ngs3 _
    HS := Kd.S_set (Kd.S_set (Kd.S_set HS1 hs1 hq 0 _) s0 hq 1 _) s1 hq 2 _
    hB := below_set (below_set (below_set hB1 h.gse) h.gse) h.gse
    gle := h.gle
    gse := h.gse }
theorem MdSt.at_ (h : MdSt w0 wr w gl gs gd lv sv dv v2 v3 ss dd v out) (hg : w.grownBy w1 v.ownBlock) : w1.heap[gd]? = some (.cells dv.toArray 48 (0, 0)) ∧ w1.heap[gs]? = some (.cells sv.toArray 46 (0, 0)) :=
  ⟨blk_grown h.hd hg (fun e => by have := (Kd.S_R h.HS).1 gd e.symm; have := h.gde; omega), blk_grown h.hs hg (Kd.S_ne h.HS h.hs (by decide))⟩
theorem MdSt.up (h : MdSt w0 wr w gl gs gd lv sv dv v2 v3 ss dd v out) (hb : Below w.heap.size w w') : MdSt w0 wr w' gl gs gd lv sv dv v2 v3 ss dd v out where
  hl := blk_below h.hl hb
  hs := blk_below h.hs hb
  hd := blk_below h.hd hb
  R1 := R_up h.R1 hb
  R2 := R_up h.R2 hb
  HS := Kd.S_below h.HS hb
  hB := below_step h.hB hb
  gle := h.gle
  gse := h.gse
  gde := h.gde
  hw := h.hw
theorem RnSt.midA {code : Int} {b : Bool} (h : RnSt w0 wr gl gs lv sv u1 u2 s v out) (hb : Below wr.heap.size wr w) (R1 : Kd.R k50 50 w wr.heap.size (fun _ => True) v2 ss) (R2 : Kd.R Kd.bool 4 w wr.heap.size (fun _ => True) v3 dd) :
    MdSt w0 wr (w.alloc (.cells #[.int .i64 code, .bool b, v2, v3] 48)) gl gs w.heap.size lv sv [.int .i64 code, .bool b, v2, v3] v2 v3 ss dd v out ∧ Below wr.heap.size wr (w.alloc (.cells #[.int .i64 code, .bool b, v2, v3] 48)) :=
  ⟨h.mid (below_alloc hb _) (heap_alloc_new w _) hb.size (R_up R1 (below_alloc (Below.refl _ _) _)) (R_up R2 (below_alloc (Below.refl _ _) _)), below_alloc hb _⟩
theorem RnSt.midB {code : Int} {b : Bool} {x0 x1 x2 x3 : Value} (h : RnSt w0 wr gl gs lv sv u1 u2 s v out) (hb : Below wr.heap.size wr w) (hd : w.heap[gd]? = some (.cells #[x0, x1, x2, x3] 48 (0, 0))) (gde : wr.heap.size ≤ gd) (R1 : Kd.R k50 50 w wr.heap.size (fun _ => True) v2 ss) (R2 : Kd.R Kd.bool 4 w wr.heap.size (fun _ => True) v3 dd) :
    MdSt w0 wr ((((w.setCell ⟨gd, 0, none⟩ (.int .i64 code)).setCell ⟨gd, 1, none⟩ (.bool b)).setCell ⟨gd, 2, none⟩ v2).setCell ⟨gd, 3, none⟩ v3) gl gs gd lv sv [.int .i64 code, .bool b, v2, v3] v2 v3 ss dd v out ∧
    Below wr.heap.size wr ((((w.setCell ⟨gd, 0, none⟩ (.int .i64 code)).setCell ⟨gd, 1, none⟩ (.bool b)).setCell ⟨gd, 2, none⟩ v2).setCell ⟨gd, 3, none⟩ v3) := by
  have B := below_set (j := 3) (v := v3) (below_set (j := 2) (v := v2) (below_set (j := 1) (v := .bool b) (below_set (j := 0) (v := .int .i64 code) hb gde) gde) gde) gde
  have n1 := Kd.R_ne R1 hd (by decide)
  have n2 := Kd.R_ne R2 hd (by decide)
  exact ⟨h.mid B (blk_put (blk_put (blk_put (blk_put hd 0 _ rfl) 1 _ rfl) 2 _ rfl) 3 _ rfl) gde (R_off rfl (R_off rfl (R_off rfl (R_off rfl R1 n1 _) n1 _) n1 _) n1 _) (R_off rfl (R_off rfl (R_off rfl (R_off rfl R2 n2 _) n2 _) n2 _) n2 _), B⟩
end
theorem alloc_blk {w w' : World} {o : Obj} (hb : Below (w.alloc o).heap.size (w.alloc o) w') : w'.heap[w.heap.size]? = some o := blk_below (heap_alloc_new w o) hb
theorem alloc_blk_drew {w w' : World} {o : Obj} (hb : Below (w.alloc o).drew.heap.size (w.alloc o).drew w') : w'.heap[w.heap.size]? = some o := blk_below (blk_drew (heap_alloc_new w o)) hb
theorem begin_is {n : Int} {A : Option Addr} {c : Nat} {l : List S88} {w : World} (hr : Kd.C k88 w A l.length l) (hc : l.length ≤ c) (hl : layoutOk n l = 0) :
    Calls Try.prog 44 #[.agg #[.int .i64 n, .slice A l.length c]] w fun e w' => ∃ v1_ v2_ : Value, e = .returned (.agg #[.bool true, v1_, v2_]) ∧ Kd.R k50 50 w' w.heap.size (fun _ => True) v1_ (st0 n l).f1 ∧ Kd.R Kd.bool 4 w' w.heap.size (fun _ => True) v2_ (st0 n l).f2 ∧ Below w.heap.size w w' := by
  have h := impl_Begin.calls n A c l (begin3 n l).1 (begin3 n l).2.1 (begin3 n l).2.2 w hr hc (implBegin_eq n l)
  rw [show begin3 n l = (true, (st0 n l).f1, (st0 n l).f2) by rw [begin3, if_pos hl]; rfl] at h
  exact h
theorem sbegin_is {n : Int} {A : Option Addr} {c : Nat} {l : List S88} {w : World} (hr : Kd.C k88 w A l.length l) (hc : l.length ≤ c) (hl : layoutOk n l = 0) :
    Calls Try.prog 43 #[.agg #[.int .i64 n, .slice A l.length c]] w fun e w' => ∃ v1_ v2_ : Value, e = .returned (.agg #[.bool true, v1_, v2_]) ∧ Kd.R k50 50 w' w.heap.size (fun _ => True) v1_ (st0 n l).f1 ∧ Kd.R Kd.bool 4 w' w.heap.size (fun _ => True) v2_ (st0 n l).f2 ∧ Below w.heap.size w w' := by
  obtain ⟨k, hk⟩ := (specBegin_ev n l).rounds
  have h := spec_Begin.calls k n A c l (begin3 n l).1 (begin3 n l).2.1 (begin3 n l).2.2 w hr hc hk
  rw [show begin3 n l = (true, (st0 n l).f1, (st0 n l).f2) by rw [begin3, if_pos hl]; rfl] at h
  exact h
end Go.Proofs.Ytpdnabhpkdchjaa.P
namespace Go.Proofs.Ytpdnabhpkdchjaa.P
open Go.RowKit Go.Proofs.YtpdnabhpkdchjaaW.PrintWords Go.Proofs.YtpdnabhpkdchjaaW.PrintLast Go.Proofs.YtpdnabhpkdchjaaW.PrintMore
attribute [local go_sem ↓] Go.wp_at_zero Go.wp_at_succ
set_option linter.unusedVariables false
set_option linter.unusedSimpArgs false
set_option maxHeartbeats 8000000 in
set_option maxRecDepth 100000 in
theorem run_is (n : Int) (A : Option Addr) (c : Nat) (l : List S88) (A1 : Option Addr) (c1 : Nat) (es : List S56) (w : World) (hr : Kd.C k88 w A l.length l) (hc : l.length ≤ c) (hr1 : Kd.C k56 w A1 es.length es) (hc1 : es.length ≤ c1) :
    Calls Try.prog 29 #[.agg #[.int .i64 n, .slice A l.length c], .slice A1 es.length c1] w fun e w' => ∃ v0_ : Value, e = .returned (v0_) ∧ Kd.S k48 48 w' w.heap.size (fun _ => True) v0_ (run n l es) ∧ Below w.heap.size w w' := by
  have HR := Aside0.mk hr
  have HC := Aside0.mk hc
  have HR1 := Aside0.mk hr1
  have HC1 := Aside0.mk hc1
  clear hr hc hr1 hc1
  by_cases hl : layoutOk n l = 0
  · by_cases he : es.length ≤ 2000
    · skip
      have b0 : (layoutOk n l != 0) = false := bne_eq_false_iff_eq.mpr hl
      have b1 : decide ((es.length : Int) > 2000) = false := decide_eq_false (by omega)
      have HL := Aside0.mk hl
      have HE := Aside0.mk he
      have HN := Aside0.mk (lay_n hl)
      clear hl he
      go_enter Try.func29, Try.ntmps29
      go_upto_region 5 with (first | ((with_reducible refine gate_dst (N := 2) rfl ?_); refine box_event ?hg (N := 2) ?hd (cs := #[.int .i64 n, .slice A l.length c]) (t := 30) ?hr ?_; (case hd => rfl); (case hg => rfl); (case hr => first | (go_simp; done) | (go_simp; rfl)); intro gl el wl kl bl; have hcz0 := (blk_cell kl 0).trans (show _ = some (Value.int .i64 n) from rfl); have hcz1 := (blk_cell kl 1).trans (show _ = some (Value.slice A l.length c) from rfl); have KL := Aside0.mk kl; have BL := Aside0.mk bl; have GL := Aside0.mk (show w.heap.size ≤ gl by rw [el]; exact Nat.le_refl _); clear kl bl el) | (go_at_call 25; refine (lay_is (Kd.C_below HR.out BL.out) HC.out).mono ?_; rintro e w1 ⟨rfl, hb⟩; have KL := Aside0.mk (blk_below KL.out hb); have BL := Aside0.mk (below_step BL.out hb); clear hb; have hcy0 := (blk_cell KL.out 0).trans (show _ = some (Value.int .i64 n) from rfl); have hcy1 := (blk_cell KL.out 1).trans (show _ = some (Value.slice A l.length c) from rfl)) | (go_at_call 44; refine (begin_is (Kd.C_below HR.out BL.out) HC.out HL.out).mono ?_; rintro e w2 ⟨v1, v2, rfl, r1, r2, hb⟩; obtain ⟨a1, d1, rfl⟩ := Kd.R_slice r1; obtain ⟨a2, d2, rfl⟩ := Kd.R_slice r2; have R1 := Aside0.mk (Kd.R_lower r1 BL.out.size); have R2 := Aside0.mk (Kd.R_lower r2 BL.out.size); have KL := Aside0.mk (blk_below KL.out hb); have BL := Aside0.mk (below_step BL.out hb); clear hb r1 r2) | ((with_reducible refine gate_dst (N := 6) rfl ?_); refine box_event ?hg (N := 6) ?hd (cs := #[.bool false, .slice none 0 0, .slice none 0 0]) (t := 46) ?hr ?_; (case hd => rfl); (case hg => rfl); (case hr => first | (go_simp; done) | (go_simp; rfl)); intro gs es_ ws ks bs; have KS := Aside0.mk ks; have ES := Aside0.mk es_; have BS := Aside0.mk bs; have zs0 := blk_frozen ks 0; have zs1 := blk_frozen ks 1; have zs2 := blk_frozen ks 2; have ks0 := (blk_cell ks 0).trans (show _ = some (Value.bool false) from rfl); have ks1 := (blk_cell ks 1).trans (show _ = some (Value.slice none 0 0) from rfl); have ks2 := (blk_cell ks 2).trans (show _ = some (Value.slice none 0 0) from rfl); clear ks es_ bs))
      clear hcz0 hcz1 hcy0 hcy1
      have BX := Aside0.mk (below_set (j := 2) (v := .slice a2 (st0 n l).f2.length d2) (below_set (j := 1) (v := .slice a1 (st0 n l).f1.length d1) (below_set (j := 0) (v := .bool true) BS.out (Nat.le_of_eq ES.out.symm)) (Nat.le_of_eq ES.out.symm)) (Nat.le_of_eq ES.out.symm))
      have KX := Aside0.mk (blk_put (blk_put (blk_put KS.out 0 (.bool true) rfl) 1 (.slice a1 (st0 n l).f1.length d1) rfl) 2 (.slice a2 (st0 n l).f2.length d2) rfl)
      have ST := Aside0.mk (show RnSt w (((ws.setCell ⟨gs, 0, none⟩ (.bool true)).setCell ⟨gs, 1, none⟩ (.slice a1 (st0 n l).f1.length d1)).setCell ⟨gs, 2, none⟩ (.slice a2 (st0 n l).f2.length d2)) gl gs [.int .i64 n, .slice A l.length c] [.bool true, .slice a1 (st0 n l).f1.length d1, .slice a2 (st0 n l).f2.length d2] (.slice a1 (st0 n l).f1.length d1) (.slice a2 (st0 n l).f2.length d2) (st0 n l) (.slice none 0 0) [] from ⟨blk_below KL.out BX.out, KX.out, Kd.V_below (Kd.R_V (Kd.R_tight rfl R1.out)) BX.out, Kd.V_below (Kd.R_V (Kd.R_tight rfl R2.out)) BX.out, Kd.S_nil _ _ _ _ _, below_step BL.out BX.out, GL.out, by rw [ES.out]; exact BL.out.size⟩)
      clear KL BL R1 R2 KS ES BS zs0 zs1 zs2 ks0 ks1 ks2 BX KX
      generalize (((ws.setCell ⟨gs, 0, none⟩ (.bool true)).setCell ⟨gs, 1, none⟩ (.slice a1 (st0 n l).f1.length d1)).setCell ⟨gs, 2, none⟩ (.slice a2 (st0 n l).f2.length d2)) = wa at ST ⊢
      go_wp2_with fail
      go_loopg [5, 22] es.length (fun kq vo v22 w' => ∃ j : Nat, v22 = .int .i64 j ∧ Aside0 (j + kq = es.length) ∧ ∃ u1 u2 : Value, Aside0 (RnSt w w' gl gs [.int .i64 n, .slice A l.length c] [.bool true, u1, u2] u1 u2 (stAt n l es j) vo (runTo n l es j)))
      case atStart => exact ⟨0, rfl, ⟨by omega⟩, _, _, ⟨by rw [stAt_zero]; exact ST.out⟩⟩
      case round =>
        clear ST
        obtain ⟨j, rfl, HJ, u1, u2, ST⟩ := hrel
        by_cases hlt : j < es.length
        · cases gk with
          | zero => exact absurd HJ.out (by omega)
          | succ gk =>
            have hlt' : decide ((j : Int) < (es.length : Int)) = true := decide_eq_true (by omega)
            have q0 : (0 : Int) ≤ (j : Int) := by omega
            have q1 : (j : Int) < (es.length : Int) := by omega
            obtain ⟨a1, d1, e1⟩ := Kd.V_slice ST.out.V1
            obtain ⟨a2, d2, e2⟩ := Kd.V_slice ST.out.V2
            subst e1 e2
            obtain ⟨ad, e, x0, x1, x2⟩ := at_T56 HR1.out (j : Int) q0 q1
            subst e
            replace x0 := pw_cell_below ST.out.hB x0
            replace x1 := pw_cell_below ST.out.hB x1
            replace x2 := pw_cell_below ST.out.hB x2
            rw [Int.toNat_natCast] at x0 x1 x2
            have HSU := Aside0.mk (stAt_succ n l es j hlt)
            have HRU := Aside0.mk (runTo_succ n l es j)
            have HLT := Aside0.mk (stAt_len n l es j)
            have HSO := Aside0.mk (stAt_ok HL.out es j)
            generalize hx : rd_T56 es (j : Int) = x at x0 x1 x2 HSU HRU
            clear hx
            generalize hst : stAt n l es j = s at ST HSU HRU HLT HSO ⊢
            clear hst
            go_upto_region 8 with ((with_reducible refine gate_dst (N := 8) rfl ?_); refine box_event ?hg (N := 8) ?hd (cs := #[.int .i64 0, .int .i64 0, .int .i64 0]) (t := 56) ?hr ?_; (case hd => rfl); (case hg => rfl); (case hr => first | (go_simp; done) | (go_simp; rfl)); intro ge ee we ke be; have KE := Aside0.mk ke; have EE := Aside0.mk ee; have BE := Aside0.mk be; have z0 := blk_frozen ke 0; have z1 := blk_frozen ke 1; have z2 := blk_frozen ke 2; have c0_ := (blk_cell ke 0).trans (show _ = some (Value.int .i64 0) from rfl); have c1_ := (blk_cell ke 1).trans (show _ = some (Value.int .i64 0) from rfl); have c2_ := (blk_cell ke 2).trans (show _ = some (Value.int .i64 0) from rfl); clear ke ee be)
            have KX := Aside0.mk (blk_put (blk_put (blk_put KE.out 0 (.int .i64 x.f0) rfl) 1 (.int .i64 x.f1) rfl) 2 (.int .i64 x.f2) rfl)
            have BX := Aside0.mk (below_set (j := 2) (v := .int .i64 x.f2) (below_set (j := 1) (v := .int .i64 x.f1) (below_set (j := 0) (v := .int .i64 x.f0) BE.out (Nat.le_of_eq EE.out.symm)) (Nat.le_of_eq EE.out.symm)) (Nat.le_of_eq EE.out.symm))
            clear KE BE EE z0 z1 z2 c0_ c1_ c2_ x0 x1 x2
            generalize (((we.setCell ⟨ge, 0, none⟩ (.int .i64 x.f0)).setCell ⟨ge, 1, none⟩ (.int .i64 x.f1)).setCell ⟨ge, 2, none⟩ (.int .i64 x.f2)) = w8 at KX BX ⊢
            go_cut [9] from 24 to 33 (fun v9 wx => ∃ (gd : Nat) (b2 b3 : Option Addr) (f2 f3 : Nat), v9 = .pointer (some ⟨gd, 0, none⟩) ∧ Aside0 (MdSt w wr wx gl gs gd [.int .i64 n, .slice A l.length c] [.bool true, .slice a1 s.f1.length d1, .slice a2 s.f2.length d2] [.int .i64 1, .bool true, (.slice b2 s.f1.length f2), (.slice b3 s.f2.length f3)] (.slice b2 s.f1.length f2) (.slice b3 s.f2.length f3) s.f1 s.f2 u5 (runTo n l es j) ∧ Below wr.heap.size wr wx ∧ wx.heap[ge]? = some (.cells #[.int .i64 x.f0, .int .i64 x.f1, .int .i64 x.f2] 56 (0, 0))))
            case first =>
              have f1 : impl_Section.f s.f1 = some s.f1 := by unfold impl_Section.f; rw [if_pos (by rw [HLT.out.1]; have := HN.out; omega)]
              have f2 : slices_Clone_bool_bool.f s.f2 = some s.f2 := by unfold slices_Clone_bool_bool.f; rw [if_pos (by rw [HLT.out.2.1]; have := HN.out; omega)]
              have F1 := Aside0.mk f1
              have F2 := Aside0.mk f2
              clear f1 f2
              have e1 : w8.cell? ⟨gs, 1, none⟩ = some (.slice a1 s.f1.length d1) := (blk_cell (blk_below ST.out.hs BX.out) 1).trans rfl
              have e2 : w8.cell? ⟨gs, 2, none⟩ = some (.slice a2 s.f2.length d2) := (blk_cell (blk_below ST.out.hs BX.out) 2).trans rfl
              have bx := Aside0.mk BX.out
              have ke := Aside0.mk KX.out
              have ksb := Aside0.mk (blk_below ST.out.hs BX.out)
              have KD : True := trivial
              have ng : True := trivial
              go_region_held3 (fun w' => w'.cell? ⟨gs, 1, none⟩ = some (.slice a1 s.f1.length d1) ∧ w'.cell? ⟨gs, 2, none⟩ = some (.slice a2 s.f2.length d2))
                (((with_reducible refine ⟨(blk_cell (cs := #[.bool true, (.slice a1 s.f1.length d1), (.slice a2 s.f2.length d2)]) (t := 46) ?_ 1).trans ?_, (blk_cell (cs := #[.bool true, (.slice a1 s.f1.length d1), (.slice a2 s.f2.length d2)]) (t := 46) ?_ 2).trans ?_⟩) <;> (first | with_reducible exact ksb.out | (with_reducible rfl) | (refine blk_below ksb.out ?_; (repeat (first | (with_reducible exact Below.refl _ _) | (with_reducible apply below_drew1) | (with_reducible apply below_alloc))); done) | (with_reducible refine blk_far ?_ (Ne.symm ng) _; with_reducible refine blk_far ?_ (Ne.symm ng) _; with_reducible refine blk_far ?_ (Ne.symm ng) _; with_reducible refine blk_far ?_ (Ne.symm ng) _; with_reducible exact ksb.out) | rfl)))
                (first | (go_at_call 94; refine (impl_Section.calls a1 d1 s.f1 s.f1 _ (Kd.V_reads' (Kd.V_below ST.out.V1 (by repeat (first | (with_reducible exact bx.out) | (with_reducible apply below_drew1) | (with_reducible apply below_alloc) | fail)))).2.2 (Kd.V_reads' ST.out.V1).2.1 F1.out).mono ?_; rintro e w' ⟨v1, rfl, ho1, hb⟩; obtain ⟨v1_a, v1_c, rfl⟩ := Kd.R_slice ho1; have HO1 := Aside0.mk (Kd.R_lower (base' := wr.heap.size) ho1 (show Below wr.heap.size wr _ from (by repeat (first | (with_reducible exact bx.out) | (with_reducible apply below_drew1) | (with_reducible apply below_alloc) | fail))).size); (first | (have HO2 := Aside0.mk (R_up HO2.out (by first | with_reducible exact hb | exact below_step (by repeat (first | (with_reducible exact Below.refl _ _) | (with_reducible apply below_drew1) | (with_reducible apply below_alloc) | fail)) hb | fail))) | skip); (first | (have KD := Aside0.mk (blk_below KD.out hb)) | (have KD := Aside0.mk (by with_reducible exact alloc_blk hb); have GD := Aside0.mk bx.out.size) | (have KD := Aside0.mk (by with_reducible exact alloc_blk_drew hb); have GD := Aside0.mk bx.out.size) | skip); (try (have zd0 := blk_frozen KD.out 0; have zd1 := blk_frozen KD.out 1; have zd2 := blk_frozen KD.out 2; have zd3 := blk_frozen KD.out 3; have kd0 := (blk_cell KD.out 0).trans (show _ = some (Value.int .i64 0) from rfl); have kd1 := (blk_cell KD.out 1).trans (show _ = some (Value.bool false) from rfl); have kd2 := (blk_cell KD.out 2).trans (show _ = some (Value.slice none 0 0) from rfl); have kd3 := (blk_cell KD.out 3).trans (show _ = some (Value.slice none 0 0) from rfl))); have ke := Aside0.mk (blk_below ke.out (by first | with_reducible exact hb | exact below_step (by repeat (first | (with_reducible exact Below.refl _ _) | (with_reducible apply below_drew1) | (with_reducible apply below_alloc) | fail)) hb | fail)); have ksb := Aside0.mk (blk_below ksb.out (by first | with_reducible exact hb | exact below_step (by repeat (first | (with_reducible exact Below.refl _ _) | (with_reducible apply below_drew1) | (with_reducible apply below_alloc) | fail)) hb | fail)); (try (have ng := blk_ne KD.out ksb.out (by decide))); have bx := Aside0.mk (below_step bx.out (by first | with_reducible exact hb | exact below_step (by repeat (first | (with_reducible exact Below.refl _ _) | (with_reducible apply below_drew1) | (with_reducible apply below_alloc) | fail)) hb | fail)); clear hb ho1) | (go_at_call 95; refine (slices_Clone_bool_bool.calls a2 d2 s.f2 s.f2 _ (Kd.V_reads' (Kd.V_below ST.out.V2 (by repeat (first | (with_reducible exact bx.out) | (with_reducible apply below_drew1) | (with_reducible apply below_alloc) | fail)))).2.2 (Kd.V_reads' ST.out.V2).2.1 F2.out).mono ?_; rintro e w' ⟨v2, rfl, ho2, hb⟩; obtain ⟨v2_a, v2_c, rfl⟩ := Kd.R_slice ho2; have HO2 := Aside0.mk (Kd.R_lower (base' := wr.heap.size) ho2 (show Below wr.heap.size wr _ from (by repeat (first | (with_reducible exact bx.out) | (with_reducible apply below_drew1) | (with_reducible apply below_alloc) | fail))).size); (first | (have HO1 := Aside0.mk (R_up HO1.out (by first | with_reducible exact hb | exact below_step (by repeat (first | (with_reducible exact Below.refl _ _) | (with_reducible apply below_drew1) | (with_reducible apply below_alloc) | fail)) hb | fail))) | skip); (first | (have KD := Aside0.mk (blk_below KD.out hb)) | (have KD := Aside0.mk (by with_reducible exact alloc_blk hb); have GD := Aside0.mk bx.out.size) | (have KD := Aside0.mk (by with_reducible exact alloc_blk_drew hb); have GD := Aside0.mk bx.out.size) | skip); (try (have zd0 := blk_frozen KD.out 0; have zd1 := blk_frozen KD.out 1; have zd2 := blk_frozen KD.out 2; have zd3 := blk_frozen KD.out 3; have kd0 := (blk_cell KD.out 0).trans (show _ = some (Value.int .i64 0) from rfl); have kd1 := (blk_cell KD.out 1).trans (show _ = some (Value.bool false) from rfl); have kd2 := (blk_cell KD.out 2).trans (show _ = some (Value.slice none 0 0) from rfl); have kd3 := (blk_cell KD.out 3).trans (show _ = some (Value.slice none 0 0) from rfl))); have ke := Aside0.mk (blk_below ke.out (by first | with_reducible exact hb | exact below_step (by repeat (first | (with_reducible exact Below.refl _ _) | (with_reducible apply below_drew1) | (with_reducible apply below_alloc) | fail)) hb | fail)); have ksb := Aside0.mk (blk_below ksb.out (by first | with_reducible exact hb | exact below_step (by repeat (first | (with_reducible exact Below.refl _ _) | (with_reducible apply below_drew1) | (with_reducible apply below_alloc) | fail)) hb | fail)); (try (have ng := blk_ne KD.out ksb.out (by decide))); have bx := Aside0.mk (below_step bx.out (by first | with_reducible exact hb | exact below_step (by repeat (first | (with_reducible exact Below.refl _ _) | (with_reducible apply below_drew1) | (with_reducible apply below_alloc) | fail)) hb | fail)); clear hb ho2))
              all_goals (go_wp2_with fail; go_meet)
              all_goals first | exact ⟨_, _, _, _, _, rfl, ⟨(ST.out.midA bx.out HO1.out HO2.out).1, (ST.out.midA bx.out HO1.out HO2.out).2, blk_below ke.out (below_alloc (Below.refl _ _) _)⟩⟩ | exact ⟨_, _, _, _, _, rfl, ⟨(ST.out.midB bx.out KD.out GD.out HO1.out HO2.out).1, (ST.out.midB bx.out KD.out GD.out HO1.out HO2.out).2, blk_far (blk_far (blk_far (blk_far ke.out (blk_ne ke.out KD.out (by decide)) _) (blk_ne ke.out KD.out (by decide)) _) (blk_ne ke.out KD.out (by decide)) _) (blk_ne ke.out KD.out (by decide)) _⟩⟩
            case rest =>
              obtain ⟨gd, b2, b3, f2, f3, rfl, HM⟩ := hcut
              clear KX BX
              have kl0 : wc.cell? ⟨gl, 0, none⟩ = some (.int .i64 n) := (blk_cell HM.out.1.hl 0).trans rfl
              have kl1 : wc.cell? ⟨gl, 1, none⟩ = some (.slice A l.length c) := (blk_cell HM.out.1.hl 1).trans rfl
              have ke0 : wc.cell? ⟨ge, 0, none⟩ = some (.int .i64 x.f0) := (blk_cell HM.out.2.2 0).trans rfl
              have ke1 : wc.cell? ⟨ge, 1, none⟩ = some (.int .i64 x.f1) := (blk_cell HM.out.2.2 1).trans rfl
              have ke2 : wc.cell? ⟨ge, 2, none⟩ = some (.int .i64 x.f2) := (blk_cell HM.out.2.2 2).trans rfl
              have ks0 : wc.cell? ⟨gs, 0, none⟩ = some (.bool true) := (blk_cell HM.out.1.hs 0).trans rfl
              have ks1 : wc.cell? ⟨gs, 1, none⟩ = some (.slice a1 s.f1.length d1) := (blk_cell HM.out.1.hs 1).trans rfl
              have ks2 : wc.cell? ⟨gs, 2, none⟩ = some (.slice a2 s.f2.length d2) := (blk_cell HM.out.1.hs 2).trans rfl
              cases hok : eventOk n l x.f0 x.f1 x.f2 with
              | false =>
                have HO := Aside0.mk hok
                clear hok
                have HST := Aside0.mk (show runStep n l s x = ⟨1, ⟨true, s.f1, s.f2⟩⟩ by unfold runStep; rw [HO.out]; rfl)
                go_upto_region 11 with (go_at_call 36; refine (ev_at x.f0 x.f1 x.f2 HO.out (Kd.C_below HR.out HM.out.1.hB) HC.out).mono ?_; rintro e wd ⟨rfl, hb⟩; have HM2 := Aside0.mk (And.intro (HM.out.1.up hb) (And.intro (below_step HM.out.2.1 hb) (blk_below HM.out.2.2 hb))); clear hb; have kd0 : wd.cell? ⟨gd, 0, none⟩ = some (.int .i64 1) := (blk_cell HM2.out.1.hd 0).trans rfl; have kd1 : wd.cell? ⟨gd, 1, none⟩ = some (.bool true) := (blk_cell HM2.out.1.hd 1).trans rfl; have kd2 : wd.cell? ⟨gd, 2, none⟩ = some (.slice b2 s.f1.length f2) := (blk_cell HM2.out.1.hd 2).trans rfl; have kd3 : wd.cell? ⟨gd, 3, none⟩ = some (.slice b3 s.f2.length f3) := (blk_cell HM2.out.1.hd 3).trans rfl)
                clear kl0 kl1 ke0 ke1 ke2 ks0 ks1 ks2
                go_wp2_with (at_builtin; refine Kd.S_append k48 (w0 := w) w.heap.size rfl (.tmp 41) (.tmp 43) 38 48 (.agg #[.int .i64 0, .bool false, .slice none 0 0, .slice none 0 0]) 64 rfl Try.underlying38 info48 rfl (by decide) (by decide) u5 (runTo n l es j) ⟨1, ⟨true, s.f1, s.f2⟩⟩ [.int .i64 (1), .bool true, (.slice b2 s.f1.length f2), (.slice b3 s.f2.length f3)] (fun _ => True) (okp (.slice b2 s.f1.length f2) (.slice b3 s.f2.length f3)) rfl rfl (HM2.out.1.elem (1) true) (fun k hk => ⟨trivial, HM2.out.1.okp_ne hk⟩) (fun _ _ => trivial) HM2.out.1.rest HM2.out.1.hB HM2.out.1.hB.size (by rw [runTo_length]; have := HE.out; omega) ?_; intro vn wn hsn hbn hgn _; have HSN := Aside0.mk hsn; have HBN := Aside0.mk hbn; have HGN := Aside0.mk hgn; have KD := Aside0.mk (HM2.out.1.at_ hgn).1; have KS := Aside0.mk (HM2.out.1.at_ hgn).2; clear hsn hbn hgn; have kd0 : wn.cell? ⟨gd, 0, none⟩ = some (.int .i64 (1)) := (blk_cell KD.out 0).trans rfl; have kd1 : wn.cell? ⟨gd, 1, none⟩ = some (.bool true) := (blk_cell KD.out 1).trans rfl; have kd2 : wn.cell? ⟨gd, 2, none⟩ = some (.slice b2 s.f1.length f2) := (blk_cell KD.out 2).trans rfl; have kd3 : wn.cell? ⟨gd, 3, none⟩ = some (.slice b3 s.f2.length f3) := (blk_cell KD.out 3).trans rfl; have kt0 : wn.cell? ⟨gs, 0, none⟩ = some (.bool true) := (blk_cell KS.out 0).trans rfl; have kt1 : wn.cell? ⟨gs, 1, none⟩ = some (.slice a1 s.f1.length d1) := (blk_cell KS.out 1).trans rfl; have kt2 : wn.cell? ⟨gs, 2, none⟩ = some (.slice a2 s.f2.length d2) := (blk_cell KS.out 2).trans rfl; have zt0 := blk_frozen KS.out 0; have zt1 := blk_frozen KS.out 1; have zt2 := blk_frozen KS.out 2)
                have SN := Aside0.mk (HM2.out.1.fin HSN.out HBN.out HGN.out)
                go_roundg gk
                case measure => omega
                case rel => exact ⟨j + 1, congrArg (Value.int .i64) (wrap_succ (by have := HE.out; omega)), ⟨by have := HJ.out; omega⟩, _, _, ⟨by rw [HSU.out, HRU.out, HST.out]; exact SN.out⟩⟩
              | true =>
                have HO := Aside0.mk hok
                clear hok
                have HST := Aside0.mk (show runStep n l s x = ⟨doCode l s.f1 s.f2 x.f0 x.f1, ⟨true, doSecs l s.f1 s.f2 x.f0 x.f1 x.f2, doDead l s.f1 s.f2 x.f0 x.f1⟩⟩ by unfold runStep; rw [if_pos HO.out])
                go_upto_region 11 with (first | (go_at_call 36; refine (ev_at x.f0 x.f1 x.f2 HO.out (Kd.C_below HR.out HM.out.1.hB) HC.out).mono ?_; rintro e wd ⟨rfl, hb⟩; have HM2 := Aside0.mk (And.intro (HM.out.1.up hb) (And.intro (below_step HM.out.2.1 hb) (blk_below HM.out.2.2 hb))); clear hb; have kl0 : wd.cell? ⟨gl, 0, none⟩ = some (.int .i64 n) := (blk_cell HM2.out.1.hl 0).trans rfl; have kl1 : wd.cell? ⟨gl, 1, none⟩ = some (.slice A l.length c) := (blk_cell HM2.out.1.hl 1).trans rfl; have ke0 : wd.cell? ⟨ge, 0, none⟩ = some (.int .i64 x.f0) := (blk_cell HM2.out.2.2 0).trans rfl; have ke1 : wd.cell? ⟨ge, 1, none⟩ = some (.int .i64 x.f1) := (blk_cell HM2.out.2.2 1).trans rfl; have ke2 : wd.cell? ⟨ge, 2, none⟩ = some (.int .i64 x.f2) := (blk_cell HM2.out.2.2 2).trans rfl; have ks0 : wd.cell? ⟨gs, 0, none⟩ = some (.bool true) := (blk_cell HM2.out.1.hs 0).trans rfl; have ks1 : wd.cell? ⟨gs, 1, none⟩ = some (.slice a1 s.f1.length d1) := (blk_cell HM2.out.1.hs 1).trans rfl; have ks2 : wd.cell? ⟨gs, 2, none⟩ = some (.slice a2 s.f2.length d2) := (blk_cell HM2.out.1.hs 2).trans rfl) | (go_at_call 96; refine (do_is n A c l true a1 d1 s.f1 a2 d2 s.f2 x.f0 x.f1 x.f2 _ (Kd.C_below HR.out HM2.out.1.hB) HC.out (Kd.V_reads' (Kd.V_below ST.out.V1 HM2.out.2.1)).2.2 (Kd.V_reads' ST.out.V1).2.1 (Kd.V_reads' (Kd.V_below ST.out.V2 HM2.out.2.1)).2.2 (Kd.V_reads' ST.out.V2).2.1 HL.out (by rw [HLT.out.1]; have := HN.out; omega) HLT.out.2.1 HO.out).mono ?_; rintro e wf ⟨v2, v3, rfl, r1, r2, hb⟩; obtain ⟨b4, f4, rfl⟩ := Kd.R_slice r1; obtain ⟨b5, f5, rfl⟩ := Kd.R_slice r2; have KD := Aside0.mk (blk_below HM2.out.1.hd hb); have NR1 := Aside0.mk (Kd.R_lower r1 HM2.out.2.1.size); have NR2 := Aside0.mk (Kd.R_lower r2 HM2.out.2.1.size); have BF := Aside0.mk (below_step HM2.out.2.1 hb); clear r1 r2 hb; have kd0 : wf.cell? ⟨gd, 0, none⟩ = some (.int .i64 1) := (blk_cell KD.out 0).trans rfl; have kd1 : wf.cell? ⟨gd, 1, none⟩ = some (.bool true) := (blk_cell KD.out 1).trans rfl; have kd2 : wf.cell? ⟨gd, 2, none⟩ = some (.slice b2 s.f1.length f2) := (blk_cell KD.out 2).trans rfl; have kd3 : wf.cell? ⟨gd, 3, none⟩ = some (.slice b3 s.f2.length f3) := (blk_cell KD.out 3).trans rfl; have zd0 := blk_frozen KD.out 0; have zd1 := blk_frozen KD.out 1; have zd2 := blk_frozen KD.out 2; have zd3 := blk_frozen KD.out 3))
                clear kl0 kl1 ke0 ke1 ke2 ks0 ks1 ks2 kd0 kd1 kd2 kd3 zd0 zd1 zd2 zd3
                have HM3 := Aside0.mk (ST.out.midB (code := (doCode l s.f1 s.f2 x.f0 x.f1)) (b := true) BF.out KD.out HM2.out.1.gde NR1.out NR2.out)
                clear HM HM2 KD NR1 NR2 BF
                generalize ((((wf.setCell ⟨gd, 0, none⟩ (.int .i64 (doCode l s.f1 s.f2 x.f0 x.f1))).setCell ⟨gd, 1, none⟩ (.bool true)).setCell ⟨gd, 2, none⟩ (.slice b4 (doSecs l s.f1 s.f2 x.f0 x.f1 x.f2).length f4)).setCell ⟨gd, 3, none⟩ (.slice b5 (doDead l s.f1 s.f2 x.f0 x.f1).length f5)) = wg at HM3 ⊢
                have kd0 : wg.cell? ⟨gd, 0, none⟩ = some (.int .i64 (doCode l s.f1 s.f2 x.f0 x.f1)) := (blk_cell HM3.out.1.hd 0).trans rfl
                have kd1 : wg.cell? ⟨gd, 1, none⟩ = some (.bool true) := (blk_cell HM3.out.1.hd 1).trans rfl
                have kd2 : wg.cell? ⟨gd, 2, none⟩ = some (.slice b4 (doSecs l s.f1 s.f2 x.f0 x.f1 x.f2).length f4) := (blk_cell HM3.out.1.hd 2).trans rfl
                have kd3 : wg.cell? ⟨gd, 3, none⟩ = some (.slice b5 (doDead l s.f1 s.f2 x.f0 x.f1).length f5) := (blk_cell HM3.out.1.hd 3).trans rfl
                go_wp2_with (at_builtin; refine Kd.S_append k48 (w0 := w) w.heap.size rfl (.tmp 41) (.tmp 43) 38 48 (.agg #[.int .i64 0, .bool false, .slice none 0 0, .slice none 0 0]) 64 rfl Try.underlying38 info48 rfl (by decide) (by decide) u5 (runTo n l es j) ⟨(doCode l s.f1 s.f2 x.f0 x.f1), ⟨true, doSecs l s.f1 s.f2 x.f0 x.f1 x.f2, doDead l s.f1 s.f2 x.f0 x.f1⟩⟩ [.int .i64 ((doCode l s.f1 s.f2 x.f0 x.f1)), .bool true, (.slice b4 (doSecs l s.f1 s.f2 x.f0 x.f1 x.f2).length f4), (.slice b5 (doDead l s.f1 s.f2 x.f0 x.f1).length f5)] (fun _ => True) (okp (.slice b4 (doSecs l s.f1 s.f2 x.f0 x.f1 x.f2).length f4) (.slice b5 (doDead l s.f1 s.f2 x.f0 x.f1).length f5)) rfl rfl (HM3.out.1.elem ((doCode l s.f1 s.f2 x.f0 x.f1)) true) (fun k hk => ⟨trivial, HM3.out.1.okp_ne hk⟩) (fun _ _ => trivial) HM3.out.1.rest HM3.out.1.hB HM3.out.1.hB.size (by rw [runTo_length]; have := HE.out; omega) ?_; intro vn wn hsn hbn hgn _; have HSN := Aside0.mk hsn; have HBN := Aside0.mk hbn; have HGN := Aside0.mk hgn; have KD := Aside0.mk (HM3.out.1.at_ hgn).1; have KS := Aside0.mk (HM3.out.1.at_ hgn).2; clear hsn hbn hgn; have kd0 : wn.cell? ⟨gd, 0, none⟩ = some (.int .i64 ((doCode l s.f1 s.f2 x.f0 x.f1))) := (blk_cell KD.out 0).trans rfl; have kd1 : wn.cell? ⟨gd, 1, none⟩ = some (.bool true) := (blk_cell KD.out 1).trans rfl; have kd2 : wn.cell? ⟨gd, 2, none⟩ = some (.slice b4 (doSecs l s.f1 s.f2 x.f0 x.f1 x.f2).length f4) := (blk_cell KD.out 2).trans rfl; have kd3 : wn.cell? ⟨gd, 3, none⟩ = some (.slice b5 (doDead l s.f1 s.f2 x.f0 x.f1).length f5) := (blk_cell KD.out 3).trans rfl; have kt0 : wn.cell? ⟨gs, 0, none⟩ = some (.bool true) := (blk_cell KS.out 0).trans rfl; have kt1 : wn.cell? ⟨gs, 1, none⟩ = some (.slice a1 s.f1.length d1) := (blk_cell KS.out 1).trans rfl; have kt2 : wn.cell? ⟨gs, 2, none⟩ = some (.slice a2 s.f2.length d2) := (blk_cell KS.out 2).trans rfl; have zt0 := blk_frozen KS.out 0; have zt1 := blk_frozen KS.out 1; have zt2 := blk_frozen KS.out 2)
                have SN := Aside0.mk (HM3.out.1.fin HSN.out HBN.out HGN.out)
                go_roundg gk
                case measure => omega
                case rel => exact ⟨j + 1, congrArg (Value.int .i64) (wrap_succ (by have := HE.out; omega)), ⟨by have := HJ.out; omega⟩, _, _, ⟨by rw [HSU.out, HRU.out, HST.out]; exact SN.out⟩⟩
        · have hlt' : decide ((j : Int) < (es.length : Int)) = false := decide_eq_false (by omega)
          have hj : j = es.length := by have := HJ.out; omega
          have HRN := Aside0.mk (show runTo n l es j = run n l es by rw [run, if_pos ⟨HL.out, HE.out⟩, hj])
          clear hj
          go_wp2_with fail
          go_ret
          exact ⟨_, rfl, HRN.out ▸ ST.out.HS, ST.out.hB⟩
    · skip
      have b0 : (layoutOk n l != 0) = false := bne_eq_false_iff_eq.mpr hl
      have b1 : decide ((es.length : Int) > 2000) = true := decide_eq_true (by omega)
      have HV := Aside0.mk (show ([] : List S48) = run n l es by rw [run, if_neg (fun h => he h.2)])
      clear hl he
      go_enter Try.func29, Try.ntmps29
      go_wp2_with (first | ((with_reducible refine gate_dst (N := 2) rfl ?_); refine box_event ?hg (N := 2) ?hd (cs := #[.int .i64 n, .slice A l.length c]) (t := 30) ?hr ?_; (case hd => rfl); (case hg => rfl); (case hr => first | (go_simp; done) | (go_simp; rfl)); intro gl el wl kl bl; have hcz0 := (blk_cell kl 0).trans (show _ = some (Value.int .i64 n) from rfl); have hcz1 := (blk_cell kl 1).trans (show _ = some (Value.slice A l.length c) from rfl); have KL := Aside0.mk kl; have BL := Aside0.mk bl; have GL := Aside0.mk (show w.heap.size ≤ gl by rw [el]; exact Nat.le_refl _); clear kl bl el) | (go_at_call 25; refine (lay_is (Kd.C_below HR.out BL.out) HC.out).mono ?_; rintro e w1 ⟨rfl, hb⟩; have KL := Aside0.mk (blk_below KL.out hb); have BL := Aside0.mk (below_step BL.out hb); clear hb; have hcy0 := (blk_cell KL.out 0).trans (show _ = some (Value.int .i64 n) from rfl); have hcy1 := (blk_cell KL.out 1).trans (show _ = some (Value.slice A l.length c) from rfl)))
      go_ret
      exact ⟨_, rfl, HV.out ▸ Kd.S_nil _ _ _ _ _, BL.out⟩
  · skip
    have b0 : (layoutOk n l != 0) = true := bne_iff_ne.mpr hl
    have HV := Aside0.mk (show ([] : List S48) = run n l es by rw [run, if_neg (fun h => hl h.1)])
    clear hl
    go_enter Try.func29, Try.ntmps29
    go_wp2_with (first | ((with_reducible refine gate_dst (N := 2) rfl ?_); refine box_event ?hg (N := 2) ?hd (cs := #[.int .i64 n, .slice A l.length c]) (t := 30) ?hr ?_; (case hd => rfl); (case hg => rfl); (case hr => first | (go_simp; done) | (go_simp; rfl)); intro gl el wl kl bl; have hcz0 := (blk_cell kl 0).trans (show _ = some (Value.int .i64 n) from rfl); have hcz1 := (blk_cell kl 1).trans (show _ = some (Value.slice A l.length c) from rfl); have KL := Aside0.mk kl; have BL := Aside0.mk bl; have GL := Aside0.mk (show w.heap.size ≤ gl by rw [el]; exact Nat.le_refl _); clear kl bl el) | (go_at_call 25; refine (lay_is (Kd.C_below HR.out BL.out) HC.out).mono ?_; rintro e w1 ⟨rfl, hb⟩; have KL := Aside0.mk (blk_below KL.out hb); have BL := Aside0.mk (below_step BL.out hb); clear hb; have hcy0 := (blk_cell KL.out 0).trans (show _ = some (Value.int .i64 n) from rfl); have hcy1 := (blk_cell KL.out 1).trans (show _ = some (Value.slice A l.length c) from rfl)))
    go_ret
    exact ⟨_, rfl, HV.out ▸ Kd.S_nil _ _ _ _ _, BL.out⟩
end Go.Proofs.Ytpdnabhpkdchjaa.P
namespace Go.Proofs.Ytpdnabhpkdchjaa.P
open Go.RowKit Go.Proofs.YtpdnabhpkdchjaaW.PrintWords Go.Proofs.YtpdnabhpkdchjaaW.PrintLast Go.Proofs.YtpdnabhpkdchjaaW.PrintMore
set_option linter.unusedVariables false
set_option linter.unusedSimpArgs false
theorem l1in_calls (x a b : Int) (w : World) : Calls Try.prog 87 #[.int .i64 x, .int .i64 a, .int .i64 b] w fun e w' => e = .returned (.bool (decide (a ≤ x) && decide (x ≤ b))) ∧ w = w' := by
  by_cases h : a ≤ x
  · have h1 : decide (x ≥ a) = true := decide_eq_true h
    rw [decide_eq_true h, Bool.true_and]
    go_enter Try.func87, Try.ntmps87
    go_wp2
    go_ret
    exact ⟨rfl, rfl⟩
  · have h1 : decide (x ≥ a) = false := decide_eq_false h
    rw [decide_eq_false h, Bool.false_and]
    go_enter Try.func87, Try.ntmps87
    go_wp2
    go_ret
    exact ⟨rfl, rfl⟩
theorem add_none (s b : Int) (v : Value) (w : World) (h : s < 0) : Calls Try.prog 118 #[v, .int .i64 s, .int .i64 b] w fun e w' => e = .returned (.tuple #[]) ∧ w = w' := by
  have h1 : decide (s < 0) = true := decide_eq_true h
  go_enter Try.func118, Try.ntmps118
  go_wp2
  refine bodyPost_ret (results_none rfl _ _ _) rfl ?_
  exact ⟨rfl, rfl⟩
set_option maxHeartbeats 4000000 in
set_option maxRecDepth 100000 in
theorem add_in (s : Int) (bo : Bool) (g gr n c : Nat) (v2 : Value) (l : List S50) (w : World) (base : Nat) (ok : Nat → Prop) (h0 : 0 ≤ s) (h1 : s < n)
    (hb : w.heap[g]? = some (.cells #[.bool bo, .slice (some ⟨gr, 0, none⟩) n c, v2] 46 (0, 0))) (HO : Kd.R k50 50 w base ok (.slice (some ⟨gr, 0, none⟩) n c) l) :
    Calls Try.prog 118 #[.pointer (some ⟨g, 0, none⟩), .int .i64 s, .int .i64 (1)] w fun e w' => e = .returned (.tuple #[]) ∧ Kd.R k50 50 w' base ok (.slice (some ⟨gr, 0, none⟩) n c) (l.set s.toNat (countS (rd_T50 l s) (1))) ∧ w.grownBy w' (some gr) := by
  obtain ⟨x0, x1, x2, x3, x4, f0, f1, f2, f3, f4⟩ := sec_at HO s h0 h1
  have hc1 : w.cell? ⟨g, 1, none⟩ = some (.slice (some ⟨gr, 0, none⟩) n c) := (blk_cell hb 1).trans rfl
  have hs : decide (s < 0) = false := decide_eq_false (by omega)
  have H0 := Aside0.mk h0
  have H1 := Aside0.mk h1
  have HO2 := Aside0.mk HO
  have hp0 := eq_true h0
  have hp1 := eq_true h1
  have ST := Aside0.mk (SecSt.start HO H0.out H1.out)
  generalize hx : rd_T50 l s = x at x0 x1 x2 x3 x4 ST ⊢
  have HX := hx
  clear hx hb h0 h1 HO HO2 HX
  by_cases q1 : -1000000 ≤ wrap64 (x.f1 + 1)
  · skip
    have Q1 := Aside0.mk q1
    clear q1
    by_cases q2 : wrap64 (x.f1 + 1) ≤ 1000000
    · skip
      have Q2 := Aside0.mk q2
      clear q2
      by_cases q3 : wrap64 (x.f1 + 1) < 0
      · skip
        have f3 : decide (wrap64 (x.f1 + 1) < 0) = true := decide_eq_true q3
        have Q3 := Aside0.mk q3
        clear q3
        rcases Bool.eq_false_or_eq_true x.f3 with q4 | q4
        · skip
          have HC := Aside0.mk (show (decide (-1000000 ≤ wrap64 (x.f1 + 1)) && decide (wrap64 (x.f1 + 1) ≤ 1000000)) = true from by have h1 := Q1.out; have h2 := Q2.out; rw [decide_eq_true h1, decide_eq_true h2]; rfl)
          go_enter Try.func118, Try.ntmps118
          go_wp2_with (go_at_call 87; refine (l1in_calls _ _ _ _).mono ?_; rintro e w' ⟨rfl, rfl⟩; rw [HC.out])
          go_wp2
          go_end0
          exact ⟨rfl, SecSt.eq (((ST.out.put1 H0.out H1.out rfl).put4 H0.out H1.out rfl).put2 H0.out H1.out rfl) (countS_eq (cnt_in (by have := Q1.out; omega) (by have := Q2.out; omega)) (by rw [decide_eq_true (by have := Q3.out; omega)]; simp) (by simp))⟩
        · have Q4 := Aside0.mk q4
          have HC := Aside0.mk (show (decide (-1000000 ≤ wrap64 (x.f1 + 1)) && decide (wrap64 (x.f1 + 1) ≤ 1000000)) = true from by have h1 := Q1.out; have h2 := Q2.out; rw [decide_eq_true h1, decide_eq_true h2]; rfl)
          go_enter Try.func118, Try.ntmps118
          go_wp2_with (go_at_call 87; refine (l1in_calls _ _ _ _).mono ?_; rintro e w' ⟨rfl, rfl⟩; rw [HC.out])
          go_wp2
          go_end0
          exact ⟨rfl, SecSt.eq (((ST.out.put1 H0.out H1.out rfl).put4 H0.out H1.out rfl).put2 H0.out H1.out rfl) (countS_eq (cnt_in (by have := Q1.out; omega) (by have := Q2.out; omega)) (by rw [decide_eq_true (by have := Q3.out; omega)]; simp) (by rw [Q4.out]; rfl))⟩
      · skip
        have f3 : decide (wrap64 (x.f1 + 1) < 0) = false := decide_eq_false q3
        have Q3 := Aside0.mk q3
        clear q3
        rcases Bool.eq_false_or_eq_true x.f3 with q4 | q4
        · skip
          have HC := Aside0.mk (show (decide (-1000000 ≤ wrap64 (x.f1 + 1)) && decide (wrap64 (x.f1 + 1) ≤ 1000000)) = true from by have h1 := Q1.out; have h2 := Q2.out; rw [decide_eq_true h1, decide_eq_true h2]; rfl)
          go_enter Try.func118, Try.ntmps118
          go_wp2_with (go_at_call 87; refine (l1in_calls _ _ _ _).mono ?_; rintro e w' ⟨rfl, rfl⟩; rw [HC.out])
          go_wp2
          go_end0
          exact ⟨rfl, SecSt.eq ((ST.out.put1 H0.out H1.out rfl).put4 H0.out H1.out rfl) (countS_eq (cnt_in (by have := Q1.out; omega) (by have := Q2.out; omega)) (by rw [decide_eq_false (by have := Q3.out; omega)]; simp) (by simp))⟩
        · have Q4 := Aside0.mk q4
          have HC := Aside0.mk (show (decide (-1000000 ≤ wrap64 (x.f1 + 1)) && decide (wrap64 (x.f1 + 1) ≤ 1000000)) = true from by have h1 := Q1.out; have h2 := Q2.out; rw [decide_eq_true h1, decide_eq_true h2]; rfl)
          go_enter Try.func118, Try.ntmps118
          go_wp2_with (go_at_call 87; refine (l1in_calls _ _ _ _).mono ?_; rintro e w' ⟨rfl, rfl⟩; rw [HC.out])
          go_wp2
          go_end0
          exact ⟨rfl, SecSt.eq ((ST.out.put1 H0.out H1.out rfl).put4 H0.out H1.out rfl) (countS_eq (cnt_in (by have := Q1.out; omega) (by have := Q2.out; omega)) (by rw [decide_eq_false (by have := Q3.out; omega)]; simp) (by rw [Q4.out]; rfl))⟩
    · skip
      have Q2 := Aside0.mk q2
      clear q2
      by_cases q3 : x.f1 < 0
      · skip
        have f3 : decide (x.f1 < 0) = true := decide_eq_true q3
        have Q3 := Aside0.mk q3
        clear q3
        rcases Bool.eq_false_or_eq_true x.f3 with q4 | q4
        · skip
          have HC := Aside0.mk (show (decide (-1000000 ≤ wrap64 (x.f1 + 1)) && decide (wrap64 (x.f1 + 1) ≤ 1000000)) = false from by have h2 := Q2.out; rw [decide_eq_false h2, Bool.and_false])
          go_enter Try.func118, Try.ntmps118
          go_wp2_with (go_at_call 87; refine (l1in_calls _ _ _ _).mono ?_; rintro e w' ⟨rfl, rfl⟩; rw [HC.out])
          go_wp2
          go_end0
          exact ⟨rfl, SecSt.eq ((ST.out.put4 H0.out H1.out rfl).put2 H0.out H1.out rfl) (countS_eq (cnt_hi (by have := Q2.out; omega)) (by rw [decide_eq_true (by have := Q3.out; omega)]; simp) (by simp))⟩
        · have Q4 := Aside0.mk q4
          have HC := Aside0.mk (show (decide (-1000000 ≤ wrap64 (x.f1 + 1)) && decide (wrap64 (x.f1 + 1) ≤ 1000000)) = false from by have h2 := Q2.out; rw [decide_eq_false h2, Bool.and_false])
          go_enter Try.func118, Try.ntmps118
          go_wp2_with (go_at_call 87; refine (l1in_calls _ _ _ _).mono ?_; rintro e w' ⟨rfl, rfl⟩; rw [HC.out])
          go_wp2
          go_end0
          exact ⟨rfl, SecSt.eq ((ST.out.put4 H0.out H1.out rfl).put2 H0.out H1.out rfl) (countS_eq (cnt_hi (by have := Q2.out; omega)) (by rw [decide_eq_true (by have := Q3.out; omega)]; simp) (by rw [Q4.out]; rfl))⟩
      · skip
        have f3 : decide (x.f1 < 0) = false := decide_eq_false q3
        have Q3 := Aside0.mk q3
        clear q3
        rcases Bool.eq_false_or_eq_true x.f3 with q4 | q4
        · skip
          have HC := Aside0.mk (show (decide (-1000000 ≤ wrap64 (x.f1 + 1)) && decide (wrap64 (x.f1 + 1) ≤ 1000000)) = false from by have h2 := Q2.out; rw [decide_eq_false h2, Bool.and_false])
          go_enter Try.func118, Try.ntmps118
          go_wp2_with (go_at_call 87; refine (l1in_calls _ _ _ _).mono ?_; rintro e w' ⟨rfl, rfl⟩; rw [HC.out])
          go_wp2
          go_end0
          exact ⟨rfl, SecSt.eq (ST.out.put4 H0.out H1.out rfl) (countS_eq (cnt_hi (by have := Q2.out; omega)) (by rw [decide_eq_false (by have := Q3.out; omega)]; simp) (by simp))⟩
        · have Q4 := Aside0.mk q4
          have HC := Aside0.mk (show (decide (-1000000 ≤ wrap64 (x.f1 + 1)) && decide (wrap64 (x.f1 + 1) ≤ 1000000)) = false from by have h2 := Q2.out; rw [decide_eq_false h2, Bool.and_false])
          go_enter Try.func118, Try.ntmps118
          go_wp2_with (go_at_call 87; refine (l1in_calls _ _ _ _).mono ?_; rintro e w' ⟨rfl, rfl⟩; rw [HC.out])
          go_wp2
          go_end0
          exact ⟨rfl, SecSt.eq (ST.out.put4 H0.out H1.out rfl) (countS_eq (cnt_hi (by have := Q2.out; omega)) (by rw [decide_eq_false (by have := Q3.out; omega)]; simp) (by rw [Q4.out]; rfl))⟩
  · skip
    have Q1 := Aside0.mk q1
    clear q1
    by_cases q3 : x.f1 < 0
    · skip
      have f3 : decide (x.f1 < 0) = true := decide_eq_true q3
      have Q3 := Aside0.mk q3
      clear q3
      rcases Bool.eq_false_or_eq_true x.f3 with q4 | q4
      · skip
        have HC := Aside0.mk (show (decide (-1000000 ≤ wrap64 (x.f1 + 1)) && decide (wrap64 (x.f1 + 1) ≤ 1000000)) = false from by have h1 := Q1.out; rw [decide_eq_false h1, Bool.false_and])
        go_enter Try.func118, Try.ntmps118
        go_wp2_with (go_at_call 87; refine (l1in_calls _ _ _ _).mono ?_; rintro e w' ⟨rfl, rfl⟩; rw [HC.out])
        go_wp2
        go_end0
        exact ⟨rfl, SecSt.eq ((ST.out.put4 H0.out H1.out rfl).put2 H0.out H1.out rfl) (countS_eq (cnt_lo (by have := Q1.out; omega)) (by rw [decide_eq_true (by have := Q3.out; omega)]; simp) (by simp))⟩
      · have Q4 := Aside0.mk q4
        have HC := Aside0.mk (show (decide (-1000000 ≤ wrap64 (x.f1 + 1)) && decide (wrap64 (x.f1 + 1) ≤ 1000000)) = false from by have h1 := Q1.out; rw [decide_eq_false h1, Bool.false_and])
        go_enter Try.func118, Try.ntmps118
        go_wp2_with (go_at_call 87; refine (l1in_calls _ _ _ _).mono ?_; rintro e w' ⟨rfl, rfl⟩; rw [HC.out])
        go_wp2
        go_end0
        exact ⟨rfl, SecSt.eq ((ST.out.put4 H0.out H1.out rfl).put2 H0.out H1.out rfl) (countS_eq (cnt_lo (by have := Q1.out; omega)) (by rw [decide_eq_true (by have := Q3.out; omega)]; simp) (by rw [Q4.out]; rfl))⟩
    · skip
      have f3 : decide (x.f1 < 0) = false := decide_eq_false q3
      have Q3 := Aside0.mk q3
      clear q3
      rcases Bool.eq_false_or_eq_true x.f3 with q4 | q4
      · skip
        have HC := Aside0.mk (show (decide (-1000000 ≤ wrap64 (x.f1 + 1)) && decide (wrap64 (x.f1 + 1) ≤ 1000000)) = false from by have h1 := Q1.out; rw [decide_eq_false h1, Bool.false_and])
        go_enter Try.func118, Try.ntmps118
        go_wp2_with (go_at_call 87; refine (l1in_calls _ _ _ _).mono ?_; rintro e w' ⟨rfl, rfl⟩; rw [HC.out])
        go_wp2
        go_end0
        exact ⟨rfl, SecSt.eq (ST.out.put4 H0.out H1.out rfl) (countS_eq (cnt_lo (by have := Q1.out; omega)) (by rw [decide_eq_false (by have := Q3.out; omega)]; simp) (by simp))⟩
      · have Q4 := Aside0.mk q4
        have HC := Aside0.mk (show (decide (-1000000 ≤ wrap64 (x.f1 + 1)) && decide (wrap64 (x.f1 + 1) ≤ 1000000)) = false from by have h1 := Q1.out; rw [decide_eq_false h1, Bool.false_and])
        go_enter Try.func118, Try.ntmps118
        go_wp2_with (go_at_call 87; refine (l1in_calls _ _ _ _).mono ?_; rintro e w' ⟨rfl, rfl⟩; rw [HC.out])
        go_wp2
        go_end0
        exact ⟨rfl, SecSt.eq (ST.out.put4 H0.out H1.out rfl) (countS_eq (cnt_lo (by have := Q1.out; omega)) (by rw [decide_eq_false (by have := Q3.out; omega)]; simp) (by rw [Q4.out]; rfl))⟩
set_option maxHeartbeats 4000000 in
set_option maxRecDepth 100000 in
theorem add_out (s : Int) (bo : Bool) (g gr n c : Nat) (v2 : Value) (l : List S50) (w : World) (base : Nat) (ok : Nat → Prop) (h0 : 0 ≤ s) (h1 : s < n)
    (hb : w.heap[g]? = some (.cells #[.bool bo, .slice (some ⟨gr, 0, none⟩) n c, v2] 46 (0, 0))) (HO : Kd.R k50 50 w base ok (.slice (some ⟨gr, 0, none⟩) n c) l) :
    Calls Try.prog 118 #[.pointer (some ⟨g, 0, none⟩), .int .i64 s, .int .i64 (-1)] w fun e w' => e = .returned (.tuple #[]) ∧ Kd.R k50 50 w' base ok (.slice (some ⟨gr, 0, none⟩) n c) (l.set s.toNat (countS (rd_T50 l s) (-1))) ∧ w.grownBy w' (some gr) := by
  obtain ⟨x0, x1, x2, x3, x4, f0, f1, f2, f3, f4⟩ := sec_at HO s h0 h1
  have hc1 : w.cell? ⟨g, 1, none⟩ = some (.slice (some ⟨gr, 0, none⟩) n c) := (blk_cell hb 1).trans rfl
  have hs : decide (s < 0) = false := decide_eq_false (by omega)
  have H0 := Aside0.mk h0
  have H1 := Aside0.mk h1
  have HO2 := Aside0.mk HO
  have hp0 := eq_true h0
  have hp1 := eq_true h1
  have ST := Aside0.mk (SecSt.start HO H0.out H1.out)
  generalize hx : rd_T50 l s = x at x0 x1 x2 x3 x4 ST ⊢
  have HX := hx
  clear hx hb h0 h1 HO HO2 HX
  by_cases q1 : -1000000 ≤ wrap64 (x.f1 + -1)
  · skip
    have Q1 := Aside0.mk q1
    clear q1
    by_cases q2 : wrap64 (x.f1 + -1) ≤ 1000000
    · skip
      have Q2 := Aside0.mk q2
      clear q2
      by_cases q3 : wrap64 (x.f1 + -1) < 0
      · skip
        have f3 : decide (wrap64 (x.f1 + -1) < 0) = true := decide_eq_true q3
        have Q3 := Aside0.mk q3
        clear q3
        rcases Bool.eq_false_or_eq_true x.f3 with q4 | q4
        · skip
          by_cases q5 : wrap64 (x.f1 + -1) = 0
          · skip
            have f5 : (wrap64 (x.f1 + -1) == 0) = true := beq_iff_eq.mpr q5
            have Q5 := Aside0.mk q5
            clear q5
            exact absurd Q5.out (by have := Q3.out; omega)
          · skip
            have f5 : (wrap64 (x.f1 + -1) == 0) = false := beq_eq_false_iff_ne.mpr q5
            have Q5 := Aside0.mk q5
            clear q5
            have HC := Aside0.mk (show (decide (-1000000 ≤ wrap64 (x.f1 + -1)) && decide (wrap64 (x.f1 + -1) ≤ 1000000)) = true from by have h1 := Q1.out; have h2 := Q2.out; rw [decide_eq_true h1, decide_eq_true h2]; rfl)
            go_enter Try.func118, Try.ntmps118
            go_wp2_with (go_at_call 87; refine (l1in_calls _ _ _ _).mono ?_; rintro e w' ⟨rfl, rfl⟩; rw [HC.out])
            go_wp2
            go_end0
            exact ⟨rfl, SecSt.eq (((ST.out.put1 H0.out H1.out rfl).put4 H0.out H1.out rfl).put2 H0.out H1.out rfl) (countS_eq (cnt_in (by have := Q1.out; omega) (by have := Q2.out; omega)) (by rw [decide_eq_true (by have := Q3.out; omega)]; simp) (by rw [decide_eq_false (by have := Q5.out; omega)]; simp))⟩
        · have Q4 := Aside0.mk q4
          have HC := Aside0.mk (show (decide (-1000000 ≤ wrap64 (x.f1 + -1)) && decide (wrap64 (x.f1 + -1) ≤ 1000000)) = true from by have h1 := Q1.out; have h2 := Q2.out; rw [decide_eq_true h1, decide_eq_true h2]; rfl)
          go_enter Try.func118, Try.ntmps118
          go_wp2_with (go_at_call 87; refine (l1in_calls _ _ _ _).mono ?_; rintro e w' ⟨rfl, rfl⟩; rw [HC.out])
          go_wp2
          go_end0
          exact ⟨rfl, SecSt.eq (((ST.out.put1 H0.out H1.out rfl).put4 H0.out H1.out rfl).put2 H0.out H1.out rfl) (countS_eq (cnt_in (by have := Q1.out; omega) (by have := Q2.out; omega)) (by rw [decide_eq_true (by have := Q3.out; omega)]; simp) (by rw [Q4.out]; rfl))⟩
      · skip
        have f3 : decide (wrap64 (x.f1 + -1) < 0) = false := decide_eq_false q3
        have Q3 := Aside0.mk q3
        clear q3
        rcases Bool.eq_false_or_eq_true x.f3 with q4 | q4
        · skip
          by_cases q5 : wrap64 (x.f1 + -1) = 0
          · skip
            have f5 : (wrap64 (x.f1 + -1) == 0) = true := beq_iff_eq.mpr q5
            have Q5 := Aside0.mk q5
            clear q5
            have HC := Aside0.mk (show (decide (-1000000 ≤ wrap64 (x.f1 + -1)) && decide (wrap64 (x.f1 + -1) ≤ 1000000)) = true from by have h1 := Q1.out; have h2 := Q2.out; rw [decide_eq_true h1, decide_eq_true h2]; rfl)
            go_enter Try.func118, Try.ntmps118
            go_wp2_with (go_at_call 87; refine (l1in_calls _ _ _ _).mono ?_; rintro e w' ⟨rfl, rfl⟩; rw [HC.out])
            go_wp2
            go_end0
            exact ⟨rfl, SecSt.eq (((ST.out.put1 H0.out H1.out rfl).put4 H0.out H1.out rfl).put3 H0.out H1.out rfl) (countS_eq (cnt_in (by have := Q1.out; omega) (by have := Q2.out; omega)) (by rw [decide_eq_false (by have := Q3.out; omega)]; simp) (by rw [decide_eq_true (by have := Q5.out; omega)]; simp))⟩
          · skip
            have f5 : (wrap64 (x.f1 + -1) == 0) = false := beq_eq_false_iff_ne.mpr q5
            have Q5 := Aside0.mk q5
            clear q5
            have HC := Aside0.mk (show (decide (-1000000 ≤ wrap64 (x.f1 + -1)) && decide (wrap64 (x.f1 + -1) ≤ 1000000)) = true from by have h1 := Q1.out; have h2 := Q2.out; rw [decide_eq_true h1, decide_eq_true h2]; rfl)
            go_enter Try.func118, Try.ntmps118
            go_wp2_with (go_at_call 87; refine (l1in_calls _ _ _ _).mono ?_; rintro e w' ⟨rfl, rfl⟩; rw [HC.out])
            go_wp2
            go_end0
            exact ⟨rfl, SecSt.eq ((ST.out.put1 H0.out H1.out rfl).put4 H0.out H1.out rfl) (countS_eq (cnt_in (by have := Q1.out; omega) (by have := Q2.out; omega)) (by rw [decide_eq_false (by have := Q3.out; omega)]; simp) (by rw [decide_eq_false (by have := Q5.out; omega)]; simp))⟩
        · have Q4 := Aside0.mk q4
          have HC := Aside0.mk (show (decide (-1000000 ≤ wrap64 (x.f1 + -1)) && decide (wrap64 (x.f1 + -1) ≤ 1000000)) = true from by have h1 := Q1.out; have h2 := Q2.out; rw [decide_eq_true h1, decide_eq_true h2]; rfl)
          go_enter Try.func118, Try.ntmps118
          go_wp2_with (go_at_call 87; refine (l1in_calls _ _ _ _).mono ?_; rintro e w' ⟨rfl, rfl⟩; rw [HC.out])
          go_wp2
          go_end0
          exact ⟨rfl, SecSt.eq ((ST.out.put1 H0.out H1.out rfl).put4 H0.out H1.out rfl) (countS_eq (cnt_in (by have := Q1.out; omega) (by have := Q2.out; omega)) (by rw [decide_eq_false (by have := Q3.out; omega)]; simp) (by rw [Q4.out]; rfl))⟩
    · skip
      have Q2 := Aside0.mk q2
      clear q2
      by_cases q3 : x.f1 < 0
      · skip
        have f3 : decide (x.f1 < 0) = true := decide_eq_true q3
        have Q3 := Aside0.mk q3
        clear q3
        rcases Bool.eq_false_or_eq_true x.f3 with q4 | q4
        · skip
          by_cases q5 : x.f1 = 0
          · skip
            have f5 : (x.f1 == 0) = true := beq_iff_eq.mpr q5
            have Q5 := Aside0.mk q5
            clear q5
            exact absurd Q5.out (by have := Q3.out; omega)
          · skip
            have f5 : (x.f1 == 0) = false := beq_eq_false_iff_ne.mpr q5
            have Q5 := Aside0.mk q5
            clear q5
            have HC := Aside0.mk (show (decide (-1000000 ≤ wrap64 (x.f1 + -1)) && decide (wrap64 (x.f1 + -1) ≤ 1000000)) = false from by have h2 := Q2.out; rw [decide_eq_false h2, Bool.and_false])
            go_enter Try.func118, Try.ntmps118
            go_wp2_with (go_at_call 87; refine (l1in_calls _ _ _ _).mono ?_; rintro e w' ⟨rfl, rfl⟩; rw [HC.out])
            go_wp2
            go_end0
            exact ⟨rfl, SecSt.eq ((ST.out.put4 H0.out H1.out rfl).put2 H0.out H1.out rfl) (countS_eq (cnt_hi (by have := Q2.out; omega)) (by rw [decide_eq_true (by have := Q3.out; omega)]; simp) (by rw [decide_eq_false (by have := Q5.out; omega)]; simp))⟩
        · have Q4 := Aside0.mk q4
          have HC := Aside0.mk (show (decide (-1000000 ≤ wrap64 (x.f1 + -1)) && decide (wrap64 (x.f1 + -1) ≤ 1000000)) = false from by have h2 := Q2.out; rw [decide_eq_false h2, Bool.and_false])
          go_enter Try.func118, Try.ntmps118
          go_wp2_with (go_at_call 87; refine (l1in_calls _ _ _ _).mono ?_; rintro e w' ⟨rfl, rfl⟩; rw [HC.out])
          go_wp2
          go_end0
          exact ⟨rfl, SecSt.eq ((ST.out.put4 H0.out H1.out rfl).put2 H0.out H1.out rfl) (countS_eq (cnt_hi (by have := Q2.out; omega)) (by rw [decide_eq_true (by have := Q3.out; omega)]; simp) (by rw [Q4.out]; rfl))⟩
      · skip
        have f3 : decide (x.f1 < 0) = false := decide_eq_false q3
        have Q3 := Aside0.mk q3
        clear q3
        rcases Bool.eq_false_or_eq_true x.f3 with q4 | q4
        · skip
          by_cases q5 : x.f1 = 0
          · skip
            have f5 : (x.f1 == 0) = true := beq_iff_eq.mpr q5
            have Q5 := Aside0.mk q5
            clear q5
            have HC := Aside0.mk (show (decide (-1000000 ≤ wrap64 (x.f1 + -1)) && decide (wrap64 (x.f1 + -1) ≤ 1000000)) = false from by have h2 := Q2.out; rw [decide_eq_false h2, Bool.and_false])
            go_enter Try.func118, Try.ntmps118
            go_wp2_with (go_at_call 87; refine (l1in_calls _ _ _ _).mono ?_; rintro e w' ⟨rfl, rfl⟩; rw [HC.out])
            go_wp2
            go_end0
            exact ⟨rfl, SecSt.eq ((ST.out.put4 H0.out H1.out rfl).put3 H0.out H1.out rfl) (countS_eq (cnt_hi (by have := Q2.out; omega)) (by rw [decide_eq_false (by have := Q3.out; omega)]; simp) (by rw [decide_eq_true (by have := Q5.out; omega)]; simp))⟩
          · skip
            have f5 : (x.f1 == 0) = false := beq_eq_false_iff_ne.mpr q5
            have Q5 := Aside0.mk q5
            clear q5
            have HC := Aside0.mk (show (decide (-1000000 ≤ wrap64 (x.f1 + -1)) && decide (wrap64 (x.f1 + -1) ≤ 1000000)) = false from by have h2 := Q2.out; rw [decide_eq_false h2, Bool.and_false])
            go_enter Try.func118, Try.ntmps118
            go_wp2_with (go_at_call 87; refine (l1in_calls _ _ _ _).mono ?_; rintro e w' ⟨rfl, rfl⟩; rw [HC.out])
            go_wp2
            go_end0
            exact ⟨rfl, SecSt.eq (ST.out.put4 H0.out H1.out rfl) (countS_eq (cnt_hi (by have := Q2.out; omega)) (by rw [decide_eq_false (by have := Q3.out; omega)]; simp) (by rw [decide_eq_false (by have := Q5.out; omega)]; simp))⟩
        · have Q4 := Aside0.mk q4
          have HC := Aside0.mk (show (decide (-1000000 ≤ wrap64 (x.f1 + -1)) && decide (wrap64 (x.f1 + -1) ≤ 1000000)) = false from by have h2 := Q2.out; rw [decide_eq_false h2, Bool.and_false])
          go_enter Try.func118, Try.ntmps118
          go_wp2_with (go_at_call 87; refine (l1in_calls _ _ _ _).mono ?_; rintro e w' ⟨rfl, rfl⟩; rw [HC.out])
          go_wp2
          go_end0
          exact ⟨rfl, SecSt.eq (ST.out.put4 H0.out H1.out rfl) (countS_eq (cnt_hi (by have := Q2.out; omega)) (by rw [decide_eq_false (by have := Q3.out; omega)]; simp) (by rw [Q4.out]; rfl))⟩
  · skip
    have Q1 := Aside0.mk q1
    clear q1
    by_cases q3 : x.f1 < 0
    · skip
      have f3 : decide (x.f1 < 0) = true := decide_eq_true q3
      have Q3 := Aside0.mk q3
      clear q3
      rcases Bool.eq_false_or_eq_true x.f3 with q4 | q4
      · skip
        by_cases q5 : x.f1 = 0
        · skip
          have f5 : (x.f1 == 0) = true := beq_iff_eq.mpr q5
          have Q5 := Aside0.mk q5
          clear q5
          exact absurd Q5.out (by have := Q3.out; omega)
        · skip
          have f5 : (x.f1 == 0) = false := beq_eq_false_iff_ne.mpr q5
          have Q5 := Aside0.mk q5
          clear q5
          have HC := Aside0.mk (show (decide (-1000000 ≤ wrap64 (x.f1 + -1)) && decide (wrap64 (x.f1 + -1) ≤ 1000000)) = false from by have h1 := Q1.out; rw [decide_eq_false h1, Bool.false_and])
          go_enter Try.func118, Try.ntmps118
          go_wp2_with (go_at_call 87; refine (l1in_calls _ _ _ _).mono ?_; rintro e w' ⟨rfl, rfl⟩; rw [HC.out])
          go_wp2
          go_end0
          exact ⟨rfl, SecSt.eq ((ST.out.put4 H0.out H1.out rfl).put2 H0.out H1.out rfl) (countS_eq (cnt_lo (by have := Q1.out; omega)) (by rw [decide_eq_true (by have := Q3.out; omega)]; simp) (by rw [decide_eq_false (by have := Q5.out; omega)]; simp))⟩
      · have Q4 := Aside0.mk q4
        have HC := Aside0.mk (show (decide (-1000000 ≤ wrap64 (x.f1 + -1)) && decide (wrap64 (x.f1 + -1) ≤ 1000000)) = false from by have h1 := Q1.out; rw [decide_eq_false h1, Bool.false_and])
        go_enter Try.func118, Try.ntmps118
        go_wp2_with (go_at_call 87; refine (l1in_calls _ _ _ _).mono ?_; rintro e w' ⟨rfl, rfl⟩; rw [HC.out])
        go_wp2
        go_end0
        exact ⟨rfl, SecSt.eq ((ST.out.put4 H0.out H1.out rfl).put2 H0.out H1.out rfl) (countS_eq (cnt_lo (by have := Q1.out; omega)) (by rw [decide_eq_true (by have := Q3.out; omega)]; simp) (by rw [Q4.out]; rfl))⟩
    · skip
      have f3 : decide (x.f1 < 0) = false := decide_eq_false q3
      have Q3 := Aside0.mk q3
      clear q3
      rcases Bool.eq_false_or_eq_true x.f3 with q4 | q4
      · skip
        by_cases q5 : x.f1 = 0
        · skip
          have f5 : (x.f1 == 0) = true := beq_iff_eq.mpr q5
          have Q5 := Aside0.mk q5
          clear q5
          have HC := Aside0.mk (show (decide (-1000000 ≤ wrap64 (x.f1 + -1)) && decide (wrap64 (x.f1 + -1) ≤ 1000000)) = false from by have h1 := Q1.out; rw [decide_eq_false h1, Bool.false_and])
          go_enter Try.func118, Try.ntmps118
          go_wp2_with (go_at_call 87; refine (l1in_calls _ _ _ _).mono ?_; rintro e w' ⟨rfl, rfl⟩; rw [HC.out])
          go_wp2
          go_end0
          exact ⟨rfl, SecSt.eq ((ST.out.put4 H0.out H1.out rfl).put3 H0.out H1.out rfl) (countS_eq (cnt_lo (by have := Q1.out; omega)) (by rw [decide_eq_false (by have := Q3.out; omega)]; simp) (by rw [decide_eq_true (by have := Q5.out; omega)]; simp))⟩
        · skip
          have f5 : (x.f1 == 0) = false := beq_eq_false_iff_ne.mpr q5
          have Q5 := Aside0.mk q5
          clear q5
          have HC := Aside0.mk (show (decide (-1000000 ≤ wrap64 (x.f1 + -1)) && decide (wrap64 (x.f1 + -1) ≤ 1000000)) = false from by have h1 := Q1.out; rw [decide_eq_false h1, Bool.false_and])
          go_enter Try.func118, Try.ntmps118
          go_wp2_with (go_at_call 87; refine (l1in_calls _ _ _ _).mono ?_; rintro e w' ⟨rfl, rfl⟩; rw [HC.out])
          go_wp2
          go_end0
          exact ⟨rfl, SecSt.eq (ST.out.put4 H0.out H1.out rfl) (countS_eq (cnt_lo (by have := Q1.out; omega)) (by rw [decide_eq_false (by have := Q3.out; omega)]; simp) (by rw [decide_eq_false (by have := Q5.out; omega)]; simp))⟩
      · have Q4 := Aside0.mk q4
        have HC := Aside0.mk (show (decide (-1000000 ≤ wrap64 (x.f1 + -1)) && decide (wrap64 (x.f1 + -1) ≤ 1000000)) = false from by have h1 := Q1.out; rw [decide_eq_false h1, Bool.false_and])
        go_enter Try.func118, Try.ntmps118
        go_wp2_with (go_at_call 87; refine (l1in_calls _ _ _ _).mono ?_; rintro e w' ⟨rfl, rfl⟩; rw [HC.out])
        go_wp2
        go_end0
        exact ⟨rfl, SecSt.eq (ST.out.put4 H0.out H1.out rfl) (countS_eq (cnt_lo (by have := Q1.out; omega)) (by rw [decide_eq_false (by have := Q3.out; omega)]; simp) (by rw [Q4.out]; rfl))⟩
end Go.Proofs.Ytpdnabhpkdchjaa.P
namespace Go.Proofs.Ytpdnabhpkdchjaa.P
open Go Go.RowKit Go.Proofs.YtpdnabhpkdchjaaW.PrintWords Go.Proofs.YtpdnabhpkdchjaaW.PrintLast Go.Proofs.YtpdnabhpkdchjaaW.PrintMore
set_option linter.unusedVariables false
def upto (n k : Nat) : Array Bool := (List.replicate k true ++ List.replicate (n - k) false).toArray
section
variable {P : Program} {md : Region.Mode} {ops : Array Oper} {T : Bool × List (List Nat × List Nat)} {B : List Nat} {Q : Exit → Act → World → Prop} {S : World → Prop} {ds : List Nat} {n k fuel : Nat} {N : Option Tmp} {oi : Oper} {v : Value} {a a' : Act} {w : World} {op : Op} {ty : TypeId} {pos : String} {af : Array Edge} {gu : Option (Nat × Bool)}
theorem wanted_none (hg : oi.guard = none) (y : Nat → Option Bool) : Region.wanted oi y = true := by unfold Region.wanted; rw [hg]
theorem wanted_yes {j : Nat} {u b : Bool} {y : Nat → Option Bool} (hg : oi.guard = some (j, u)) (hb : y j = some b) (he : (b == u) = true) : Region.wanted oi y = true := by
  unfold Region.wanted
  rw [hg]
  dsimp only
  rw [hb]
  cases b <;> cases u <;> first | rfl | cases he
theorem wanted_no {j : Nat} {u b : Bool} {y : Nat → Option Bool} (hg : oi.guard = some (j, u)) (hb : y j = some b) (he : (b == u) = false) : Region.wanted oi y = false := by
  unfold Region.wanted
  rw [hg]
  dsimp only
  rw [hb]
  cases b <;> cases u <;> first | rfl | cases he
theorem upto_zero (n : Nat) : Array.replicate n false = upto n 0 := by simp [upto]
theorem startK {id : Nat} (n : Nat) (hm : P.follows .mixedOrders = true) (hn : ops.size = n) (hS : S w.drew) (h : S w.drew → wpAnyLast P .any ops Q S ds n (upto n 0) a w.drew) : (Code.region id ops true).wp P Q a w := start_ (upto n 0) hm hn (upto_zero n) hS h
theorem take0 {k' : Nat} (hk : k + 1 = k') (hi : ops[k]? = some ⟨N, op, ty, pos, af, none⟩) (hT : rtab md ops = T) (hB : waitsOk T.2 B = true) (hc : takeW T B ds (upto n k).toList (upto n k').toList k = true) (hQ : ∀ c a w, Q (.panic c) (a.put N v) w → Q (.panic c) a w) (hS : S w) (hy : ∀ w, S w → (execOp a.eval ⟨N, op, ty, pos, af, none⟩).run P w = .ok (.value v) w) (ha : a.put N v = a') (h : wpAnyLast P md ops Q S ds fuel (upto n k') a' w) : wpAnyLast P md ops Q S ds (fuel + 1) (upto n k) a w :=
  take_ (upto n k') hi rfl (take_ofW hT hB hc) hQ (Or.inl ⟨wanted_none rfl _, hy⟩) hS ha h
theorem takeG {k' j : Nat} {u b : Bool} (hk : k + 1 = k') (hi : ops[k]? = some ⟨N, op, ty, pos, af, some (j, u)⟩) (hb : yielded ops a.tmps j = some b) (hT : rtab md ops = T) (hB : waitsOk T.2 B = true) (hc : takeW T B ds (upto n k).toList (upto n k').toList k = true) (hQ : ∀ c a w, Q (.panic c) (a.put N v) w → Q (.panic c) a w) (hS : S w) (hy : if (b == u) = true then ∀ w, S w → (execOp a.eval ⟨N, op, ty, pos, af, some (j, u)⟩).run P w = .ok (.value v) w else v = undef) (ha : a.put N v = a') (h : wpAnyLast P md ops Q S ds fuel (upto n k') a' w) : wpAnyLast P md ops Q S ds (fuel + 1) (upto n k) a w := by
  refine take_ (upto n k') hi rfl (take_ofW hT hB hc) hQ ?_ hS ha h
  cases he : (b == u) with
  | true => rw [he, if_pos rfl] at hy; exact Or.inl ⟨wanted_yes rfl hb he, hy⟩
  | false => rw [he, if_neg (by decide)] at hy; exact Or.inr ⟨wanted_no rfl hb he, hy⟩
theorem oneK {k' : Nat} (hk : k + 1 = k') (hi : ops[k]? = some ⟨N, op, ty, pos, af, gu⟩) (hT : rtab md ops = T) (hc : (readyT T.2 (upto n k).toList == [k] && (upto n k).toList.set k true == (upto n k').toList) = true) (hd : k ∉ ds)
    (h : ∀ K : Act → World → Prop, Shut (∀ a' w', S w' → (S w' → wpAnyLast P md ops Q S ds fuel (upto n k') a' w') → K a' w') → if Region.wanted ⟨N, op, ty, pos, af, gu⟩ (yielded ops a.tmps) = true then Oper.wp P ⟨N, op, ty, pos, af, gu⟩ a w K Q else K (a.put N undef) w) : wpAnyLast P md ops Q S ds (fuel + 1) (upto n k) a w :=
  one_ (upto n k') hi rfl (one_of hT hc) hd h
end
end Go.Proofs.Ytpdnabhpkdchjaa.P
namespace Go.Proofs.Ytpdnabhpkdchjaa.P
open Go.RowKit Go.Proofs.YtpdnabhpkdchjaaW.PrintWords Go.Proofs.YtpdnabhpkdchjaaW.PrintLast Go.Proofs.YtpdnabhpkdchjaaW.PrintMore
set_option linter.unusedVariables false
structure StSt (w0 w : World) (gl gz : Nat) (lv zv : List Value) : Prop where
  hB : Below w0.heap.size w0 w
  hl : w.heap[gl]? = some (.cells lv.toArray 30 (0, 0))
  hz : w.heap[gz]? = some (.cells zv.toArray 46 (0, 0))
structure SeSt (w0 w : World) (gl gz gx : Nat) (lv zv xv : List Value) : Prop where
  S : StSt w0 w gl gz lv zv
  hx : w.heap[gx]? = some (.cells xv.toArray 50 (0, 0))
section
variable {w0 w w' : World} {gl gz gx : Nat} {lv zv xv : List Value}
theorem StSt.up (h : StSt w0 w gl gz lv zv) (hb : Below w.heap.size w w') : StSt w0 w' gl gz lv zv := ⟨below_step h.hB hb, blk_below h.hl hb, blk_below h.hz hb⟩
theorem SeSt.up (h : SeSt w0 w gl gz gx lv zv xv) (hb : Below w.heap.size w w') : SeSt w0 w' gl gz gx lv zv xv := ⟨h.S.up hb, blk_below h.hx hb⟩
theorem StSt.fill {y0 y1 y2 y3 y4 x0 x1 x2 x3 x4 : Value} (h : StSt w0 w gl gz lv zv) (hx : w'.heap[gx]? = some (.cells #[x0, x1, x2, x3, x4] 50 (0, 0))) (hb : Below w.heap.size w w') (hg : w.heap.size ≤ gx) :
    SeSt w0 (((((w'.setCell ⟨gx, 0, none⟩ y0).setCell ⟨gx, 1, none⟩ y1).setCell ⟨gx, 2, none⟩ y2).setCell ⟨gx, 3, none⟩ y3).setCell ⟨gx, 4, none⟩ y4) gl gz gx lv zv [y0, y1, y2, y3, y4] := by
  have h2 := below_set (j := 4) (v := y4) (below_set (j := 3) (v := y3) (below_set (j := 2) (v := y2) (below_set (j := 1) (v := y1) (below_set (j := 0) (v := y0) hb hg) hg) hg) hg) hg
  exact ⟨h.up h2, blk_put (blk_put (blk_put (blk_put (blk_put hx 0 y0 rfl) 1 y1 rfl) 2 y2 rfl) 3 y3 rfl) 4 y4 rfl⟩
end
theorem stateOk_tests (n : Int) (l : List S88) (b : Bool) (ss : List S50) (dd : List Bool) :
    (¬ ((layoutOk n l != 0) = false ∧ b = true ∧ ((ss.length : Int) != n) = false ∧ ((dd.length : Int) != (l.length : Int)) = false) → stateOk n l b ss dd = false) ∧
    (layoutOk n l = 0 → (ss.length : Int) = n → dd.length = l.length → b = true → stateOk n l b ss dd = secsFrom l dd ss ss.length 0) := by
  constructor
  · intro h
    cases hs : stateOk n l b ss dd with
    | false => rfl
    | true =>
      obtain ⟨h1, h2, h3, h4, _⟩ := stateOk_of hs
      exact absurd ⟨by simp [h1], h2, by simp [h3], by simp; omega⟩ h
  · intro h1 h2 h3 h4
    simp [stateOk, h1, h2, h3, h4]
theorem secOk_parts (l : List S88) (dd : List Bool) (s : Int) (x : S50) :
    ((decide (x.f1 < -1000000) || decide (1000000 < x.f1) || decide (x.f4 < -1) || decide (1 < x.f4) || (x.f0 != toldC l dd s x)) = true → secOk l dd s x = false) ∧
    ((decide (x.f1 < -1000000) || decide (1000000 < x.f1) || decide (x.f4 < -1) || decide (1 < x.f4) || (x.f0 != toldC l dd s x)) = false → secOk l dd s x = (!((decide (x.f1 < 0) || deadAt l dd s) && !x.f2) && !(x.f3 && (x.f1 == 0) && (x.f4 == -1) && !x.f2))) := by
  have e1 : (x.f1 == 0) = decide (x.f1 = 0) := by rw [Bool.eq_iff_iff]; simp
  have e2 : (x.f4 == -1) = decide (x.f4 = -1) := by rw [Bool.eq_iff_iff]; simp
  have e3 : (x.f0 != toldC l dd s x) = !decide (x.f0 = toldC l dd s x) := by rw [Bool.eq_iff_iff]; simp
  have e4 : secRange x = !(decide (x.f1 < -1000000) || decide (1000000 < x.f1) || decide (x.f4 < -1) || decide (1 < x.f4)) := by
    rw [Bool.eq_iff_iff]; simp only [secRange, Bool.and_eq_true, decide_eq_true_eq, Bool.not_eq_true', Bool.or_eq_false_iff, decide_eq_false_iff_not]; omega
  rw [e1, e2, e3]
  simp only [secOk, secRest, e4]
  cases (decide (x.f1 < -1000000) || decide (1000000 < x.f1) || decide (x.f4 < -1) || decide (1 < x.f4)) <;> cases decide (x.f0 = toldC l dd s x) <;> simp
theorem bad_of {x : S50} {r1 r2 t y : Bool} (h1 : (decide (-1000000 ≤ x.f1) && decide (x.f1 ≤ 1000000)) = r1) (h2 : (decide (-1 ≤ x.f4) && decide (x.f4 ≤ 1)) = r2) (h : (!r1 || !r2 || t) = y) :
    (decide (x.f1 < -1000000) || decide (1000000 < x.f1) || decide (x.f4 < -1) || decide (1 < x.f4) || t) = y := by
  subst h1 h2 h
  rw [Bool.eq_iff_iff]
  cases t
  · simp only [Bool.or_eq_true, decide_eq_true_eq, Bool.not_eq_true', Bool.and_eq_false_iff, decide_eq_false_iff_not, Bool.false_eq_true, or_false]
    omega
  · simp
end Go.Proofs.Ytpdnabhpkdchjaa.P
