/- The statement FnSweep holds of the given program, for every argument; there are no conditions. (Part 3 of 6.) -/
import Derived.Test.YtpdnabhpkdchjaaBFnSweep2
import Derived.Deep.DrawnRows
import Derived.Shelf.SlSortCmp.NoneTotal
namespace Go.Proofs.Ytpdnabhpkdchjaa.P
open Go.RowKit Go.Proofs.YtpdnabhpkdchjaaW.PrintWords Go.Proofs.YtpdnabhpkdchjaaW.PrintLast Go.Proofs.YtpdnabhpkdchjaaW.PrintMore
attribute [local go_sem] max2_int min2_int max_two min_two max_three min_three max_four min_four
set_option linter.unusedVariables false
set_option linter.unusedSimpArgs false
def impl_dead.l0:Nat→Int→List (S88)→Int→Int→Bool→List (S50)→List Bool→Option (Bool)
 | 0,_,_,_,_,_,_,_=>none
 | k+1,x2,x10,x11,x12,x328000,x328001,x328002=>if x12<x11 then (if 0≤x12 then (if x12<(x10.length:Int) then (if x12<(x328002.length:Int) then (if rdOf false x328002 x12=true then (if ((rd_T88 x10 x12).f0)=x2 then (some true) else (if ((rd_T88 x10 x12).f1)=x2 then (some true) else (impl_dead.l0 k x2 x10 x11 (wrap64 (x12+1)) x328000 x328001 x328002))) else (impl_dead.l0 k x2 x10 x11 (wrap64 (x12+1)) x328000 x328001 x328002)) else (none)) else (none)) else (none)) else (some false)
def impl_dead.f (k:Nat) (a0_0:Int) (l0_1:List (S88)) (a1_0:Bool) (l1_1:List (S50)) (l1_2:List Bool) (a2:Int):Option (Bool):=impl_dead.l0 k a2 l0_1 (l0_1.length:Int) 0 a1_0 l1_1 l1_2
set_option maxHeartbeats 8000000 in
set_option maxRecDepth 100000 in
theorem impl_dead.calls (k:Nat) (a0_0:Int) (A0_1:Option Addr) (c0_1:Nat) (l0_1:List (S88)) (a1_0:Bool) (A1_1:Option Addr) (c1_1:Nat) (l1_1:List (S50)) (A1_2:Option Addr) (c1_2:Nat) (l1_2:List Bool) (a2:Int) (r:Bool) (w:World) (hr0_1:Kd.C k88 w A0_1 l0_1.length l0_1) (hc0_1:l0_1.length≤c0_1) (hr1_1:Kd.C k50 w A1_1 l1_1.length l1_1) (hc1_1:l1_1.length≤c1_1) (hr1_2:Kd.C Kd.bool w A1_2 l1_2.length l1_2) (hc1_2:l1_2.length≤c1_2) (h:impl_dead.f k a0_0 l0_1 a1_0 l1_1 l1_2 a2=some r) :
  Calls Try.prog 98 #[.agg #[.int .i64 a0_0,.slice A0_1 l0_1.length c0_1],.agg #[.bool a1_0,.slice A1_1 l1_1.length c1_1,.slice A1_2 l1_2.length c1_2],.int .i64 a2] w fun e w'=>e=.returned (.bool r)∧Below w.heap.size w w':=by
 have hu30:=Try.underlying30
 have hu46:=Try.underlying46
 have hu88:=Try.underlying88
 have HR0_1:=Aside0.mk hr0_1
 have HC0_1:=Aside0.mk hc0_1
 clear hr0_1 hc0_1
 have HR1_1:=Aside0.mk hr1_1
 have HC1_1:=Aside0.mk hc1_1
 clear hr1_1 hc1_1
 have HR1_2:=Aside0.mk hr1_2
 have HC1_2:=Aside0.mk hc1_2
 clear hr1_2 hc1_2
 have HB:=Aside0.mk (Below.refl w.heap.size w)
 have H:(impl_dead.l0 k a2 l0_1 (l0_1.length:Int) 0 a1_0 l1_1 l1_2)=some r:=h
 clear h
 have H':=Aside0.mk H
 clear H
 go_enter Try.func98,Try.ntmps98
 go_wp2_with (first|((with_reducible refine gate_dst (N:=3) rfl ?_);refine box_event ?hg (N:=3) ?hd (cs:=#[.int .i64 a0_0,.slice A0_1 l0_1.length c0_1]) (t:=30) ?hr ?_;(case hd=>rfl);(case hg=>rfl);(case hr=>first|(go_simp;done)|(go_simp;rfl));intro gb326 hg w4 hbox hb;have n0_:=Aside0.mk (below_step (by exact HB.out) hb);have n1_:=Aside0.mk (hbox);have n2_:=Aside0.mk ((by rw [hg];exact (below_size (by exact HB.out)):w.heap.size≤gb326));have n3_:=Aside0.mk ((by rw [hg];exact (below_size (by exact HB.out)):w.heap.size≤gb326));clear HB;have HB:=n0_;have BK326:=n1_;have GW326:=n2_;have GE326:=n3_;clear n0_ n1_ n2_ n3_;clear hb hbox hg)|((with_reducible refine gate_dst (N:=4) rfl ?_);refine box_event ?hg (N:=4) ?hd (cs:=#[.bool a1_0,.slice A1_1 l1_1.length c1_1,.slice A1_2 l1_2.length c1_2]) (t:=46) ?hr ?_;(case hd=>rfl);(case hg=>rfl);(case hr=>first|(go_simp;done)|(go_simp;rfl));intro gb327 hg w5 hbox hb;have n0_:=Aside0.mk (blk_below (g:=gb326) (o:=.cells #[.int .i64 a0_0,.slice A0_1 l0_1.length c0_1] 30 (0,0)) (by exact BK326.out) hb);have n1_:=Aside0.mk (below_step (by exact HB.out) hb);have n2_:=Aside0.mk (hbox);have n3_:=Aside0.mk ((by rw [hg];exact (below_size (by exact HB.out)):w.heap.size≤gb327));have n4_:=Aside0.mk ((by rw [hg];exact (below_size (by exact HB.out)):w.heap.size≤gb327));have n5_:=Aside0.mk ((by rw [hg];exact Nat.ne_of_lt (blk_lt (g:=gb326) (o:=.cells #[.int .i64 a0_0,.slice A0_1 l0_1.length c0_1] 30 (0,0)) (by exact BK326.out)):gb326 ≠ gb327));have n6_:=Aside0.mk ((by rw [hg];exact Nat.ne_of_gt (blk_lt (g:=gb326) (o:=.cells #[.int .i64 a0_0,.slice A0_1 l0_1.length c0_1] 30 (0,0)) (by exact BK326.out)):gb327 ≠ gb326));clear BK326;clear HB;have BK326:=n0_;have HB:=n1_;have BK327:=n2_;have GW327:=n3_;have GE327:=n4_;have NB326_327:=n5_;have NB327_326:=n6_;clear n0_ n1_ n2_ n3_ n4_ n5_ n6_;clear hb hbox hg;have hnb6:=NB326_327.out;have hnc6:=NB327_326.out;have hcz7_0:w5.cell? ⟨gb326,0,none⟩=some (.int .i64 a0_0):=(blk_cell BK326.out 0).trans rfl;have hcz7_1:w5.cell? ⟨gb326,1,none⟩=some (.slice A0_1 l0_1.length c0_1):=(blk_cell BK326.out 1).trans rfl;have hfz7_0:=blk_frozen BK326.out 0;have hfz7_1:=blk_frozen BK326.out 1))
 go_loopg [12] k (fun kq v12 w'=>∃ (x12_1:Int),v12=.int .i64 x12_1∧Aside0 (impl_dead.l0 kq a2 l0_1 (l0_1.length:Int) x12_1 a1_0 l1_1 l1_2=some r)∧Aside0 (kq≤k)∧Aside0 (w'.heap[gb326]?=some (.cells #[.int .i64 a0_0,(.slice A0_1 l0_1.length c0_1)] 30 (0,0)))∧Aside0 (w'.heap[gb327]?=some (.cells #[.bool a1_0,(.slice A1_1 l1_1.length c1_1),(.slice A1_2 l1_2.length c1_2)] 46 (0,0)))∧Aside0 (Below w.heap.size w w'))
 case atStart=>exact ⟨(0),(by first|rfl|(simp;done)|(simp [*];done)),H',⟨Nat.le_refl _⟩,⟨by exact BK326.out⟩,⟨by exact BK327.out⟩,⟨by exact HB.out⟩⟩
 case round =>
  clear H'
  try clear c1
  try clear p2
  try clear c6
  try clear hcz7_0
  try clear hcz7_1
  try clear hfz7_0
  try clear hfz7_1
  obtain ⟨x12_1,rfl,HA,HK1,BK326,BK327,HB⟩:=hrel
  cases gk with
  | zero=>exact absurd HA.out (by simp [impl_dead.l0])
  | succ k1 =>
   have H:=HA.out
   clear HA
   simp only [impl_dead.l0] at H
   by_cases c8:x12_1<(l0_1.length:Int)
   ·rw [if_pos c8] at H
    have c8b0:decide (x12_1<(l0_1.length:Int))=true:=decide_eq_true c8
    clear c8
    by_cases c9:0≤x12_1
    ·rw [if_pos c9] at H
     have c9b0:decide (0≤x12_1)=true:=decide_eq_true c9
     clear c9
     by_cases c10:x12_1<(l0_1.length:Int)
     ·rw [if_pos c10] at H
      have c10b0:decide (x12_1<(l0_1.length:Int))=true:=decide_eq_true c10
      clear c10
      by_cases c11:x12_1<(l1_2.length:Int)
      ·rw [if_pos c11] at H
       have c11b0:decide (x12_1<(l1_2.length:Int))=true:=decide_eq_true c11
       clear c11
       obtain ⟨bq12,hbq12⟩:∃ b_:Bool,b_=(rdOf false l1_2 x12_1):=⟨_,rfl⟩
       replace H:(if bq12=true then (if ((rd_T88 l0_1 x12_1).f0)=a2 then (some true) else (if ((rd_T88 l0_1 x12_1).f1)=a2 then (some true) else (impl_dead.l0 k1 a2 l0_1 (l0_1.length:Int) (wrap64 (x12_1+1)) a1_0 l1_1 l1_2))) else (impl_dead.l0 k1 a2 l0_1 (l0_1.length:Int) (wrap64 (x12_1+1)) a1_0 l1_1 l1_2))=some r:=by rw [← hbq12] at H;exact H
       have Nbq12:=Aside0.mk hbq12
       clear hbq12
       by_cases c13:bq12=true
       ·subst c13
        have H1:(if ((rd_T88 l0_1 x12_1).f0)=a2 then (some true) else (if ((rd_T88 l0_1 x12_1).f1)=a2 then (some true) else (impl_dead.l0 k1 a2 l0_1 (l0_1.length:Int) (wrap64 (x12_1+1)) a1_0 l1_1 l1_2)))=some r:=by rw [if_pos rfl] at H;exact H
        clear H
        have H:=H1
        clear H1
        by_cases c14:((rd_T88 l0_1 x12_1).f0)=a2
        ·rw [if_pos c14] at H
         have c14b0:(((rd_T88 l0_1 x12_1).f0)==a2)=true:=beq_iff_eq.mpr c14
         have c14b1:(((rd_T88 l0_1 x12_1).f0) != a2)=false:=bne_eq_false_iff_eq.mpr c14
         clear c14
         obtain rfl:=Option.some.inj H
         have p328:0≤(x12_1:Int):=of_decide_eq_true (by first|(with_reducible assumption)|assumption)
         have q328:x12_1<(l0_1.length:Int):=of_decide_eq_true (by first|(with_reducible assumption)|assumption)
         obtain ⟨ad328,e328,hx328_0,hx328_1⟩:=at_T88 HR0_1.out x12_1 p328 q328
         cases e328
         replace hx328_0:=(HB.out.cell (World.block_lt_of_cell? w _ hx328_0)).trans hx328_0
         replace hx328_1:=(HB.out.cell (World.block_lt_of_cell? w _ hx328_1)).trans hx328_1
         replace p328:=eq_true p328
         replace q328:=eq_true q328
         go_wp2_with (first|((with_reducible refine gate_dst (N:=8) rfl ?_);refine box_event ?hg (N:=8) ?hd (cs:=#[.int .i64 0,.int .i64 0]) (t:=88) ?hr ?_;(case hd=>rfl);(case hg=>rfl);(case hr=>first|(go_simp;done)|(go_simp;rfl));intro gb329 hg w15 hbox hb;have n0_:=Aside0.mk (blk_below (g:=gb326) (o:=.cells #[.int .i64 a0_0,.slice (some ad328) l0_1.length c0_1] 30 (0,0)) (by exact BK326.out) hb);have n1_:=Aside0.mk (blk_below (g:=gb327) (o:=.cells #[.bool a1_0,.slice A1_1 l1_1.length c1_1,.slice A1_2 l1_2.length c1_2] 46 (0,0)) (by exact BK327.out) hb);have n2_:=Aside0.mk (below_step (by exact HB.out) hb);have n3_:=Aside0.mk (hbox);have n4_:=Aside0.mk ((by rw [hg];exact (below_size (by exact HB.out)):w.heap.size≤gb329));have n5_:=Aside0.mk ((by rw [hg];exact (below_size (by exact HB.out)):w.heap.size≤gb329));have n6_:=Aside0.mk ((by rw [hg];exact Nat.ne_of_lt (blk_lt (g:=gb326) (o:=.cells #[.int .i64 a0_0,.slice (some ad328) l0_1.length c0_1] 30 (0,0)) (by exact BK326.out)):gb326 ≠ gb329));have n7_:=Aside0.mk ((by rw [hg];exact Nat.ne_of_gt (blk_lt (g:=gb326) (o:=.cells #[.int .i64 a0_0,.slice (some ad328) l0_1.length c0_1] 30 (0,0)) (by exact BK326.out)):gb329 ≠ gb326));have n8_:=Aside0.mk ((by rw [hg];exact Nat.ne_of_lt (blk_lt (g:=gb327) (o:=.cells #[.bool a1_0,.slice A1_1 l1_1.length c1_1,.slice A1_2 l1_2.length c1_2] 46 (0,0)) (by exact BK327.out)):gb327 ≠ gb329));have n9_:=Aside0.mk ((by rw [hg];exact Nat.ne_of_gt (blk_lt (g:=gb327) (o:=.cells #[.bool a1_0,.slice A1_1 l1_1.length c1_1,.slice A1_2 l1_2.length c1_2] 46 (0,0)) (by exact BK327.out)):gb329 ≠ gb327));clear BK326;clear BK327;clear HB;have BK326:=n0_;have BK327:=n1_;have HB:=n2_;have BK329:=n3_;have GW329:=n4_;have GE329:=n5_;have NB326_329:=n6_;have NB329_326:=n7_;have NB327_329:=n8_;have NB329_327:=n9_;clear n0_ n1_ n2_ n3_ n4_ n5_ n6_ n7_ n8_ n9_;clear hb hbox hg;have hnb16:=NB329_326.out;have hnc16:=NB326_329.out;have hnb17:=NB329_327.out;have hnc17:=NB327_329.out;have hcz18_0:w15.cell? ⟨gb329,0,none⟩=some (.int .i64 0):=(blk_cell BK329.out 0).trans rfl;have hcz18_1:w15.cell? ⟨gb329,1,none⟩=some (.int .i64 0):=(blk_cell BK329.out 1).trans rfl;have hfz18_0:=blk_frozen BK329.out 0;have hfz18_1:=blk_frozen BK329.out 1;have hnb19:=NB327_326.out;have hnc19:=NB326_327.out;have hcz20_0:w15.cell? ⟨gb327,0,none⟩=some (.bool a1_0):=(blk_cell BK327.out 0).trans rfl;have hcz20_1:w15.cell? ⟨gb327,1,none⟩=some (.slice A1_1 l1_1.length c1_1):=(blk_cell BK327.out 1).trans rfl;have hcz20_2:w15.cell? ⟨gb327,2,none⟩=some (.slice A1_2 l1_2.length c1_2):=(blk_cell BK327.out 2).trans rfl;have hfz20_0:=blk_frozen BK327.out 0;have hfz20_1:=blk_frozen BK327.out 1;have hfz20_2:=blk_frozen BK327.out 2;have p330:0≤(x12_1:Int):=of_decide_eq_true (by first|(with_reducible assumption)|assumption);have q330:x12_1<(l1_2.length:Int):=of_decide_eq_true (by first|(with_reducible assumption)|assumption);obtain ⟨ad330,e330,hx330_0⟩:=Kd.at_bool HR1_2.out x12_1 p330 q330;(try rw [← Nbq12.out] at hx330_0);cases e330;have hn330_0:ad330.block ≠ gb329:=Nat.ne_of_lt (Nat.lt_of_lt_of_le (by have:=World.block_lt_of_cell? _ _ hx330_0;first|rwa [add_block] at this|exact this) GW329.out);have hn330_1:ad330.block ≠ gb329:=Nat.ne_of_lt (Nat.lt_of_lt_of_le (by have:=World.block_lt_of_cell? _ _ hx330_0;first|rwa [add_block] at this|exact this) GW329.out);replace hx330_0:=(HB.out.cell (World.block_lt_of_cell? w _ hx330_0)).trans hx330_0;replace hx330_0:=(cell_far (p:=⟨gb329,0,none⟩) (by first|(rw [add_block];exact hn330_0)|(show (Addr.add _ _).block ≠ _;rw [add_block];exact hn330_0)|exact hn330_0) (.int .i64 ((rd_T88 l0_1 x12_1).f0))).trans hx330_0;replace hx330_0:=(cell_far (p:=⟨gb329,1,none⟩) (by first|(rw [add_block];exact hn330_1)|(show (Addr.add _ _).block ≠ _;rw [add_block];exact hn330_1)|exact hn330_1) (.int .i64 ((rd_T88 l0_1 x12_1).f1))).trans hx330_0;clear hn330_0;clear hn330_1;replace p330:=eq_true p330;replace q330:=eq_true q330))
         go_ret
         exact ⟨by first|rfl|(simp [errW_none,errW_some] <;> rfl)|(simp [*,errW_none,errW_some] <;> rfl),by repeat (first|(with_reducible first|exact HB.out|apply below_alloc|apply pw_below_drewN|apply below_drew1|refine below_set ?_ GE326.out|refine below_set ?_ GE327.out|refine below_set ?_ GE329.out)|exact HB.out)⟩
        rw [if_neg c14] at H
        have c14b0:(((rd_T88 l0_1 x12_1).f0)==a2)=false:=beq_eq_false_iff_ne.mpr c14
        have c14b1:(((rd_T88 l0_1 x12_1).f0) != a2)=true:=bne_iff_ne.mpr c14
        by_cases c21:((rd_T88 l0_1 x12_1).f1)=a2
        ·rw [if_pos c21] at H
         have c21b0:(((rd_T88 l0_1 x12_1).f1)==a2)=true:=beq_iff_eq.mpr c21
         have c21b1:(((rd_T88 l0_1 x12_1).f1) != a2)=false:=bne_eq_false_iff_eq.mpr c21
         clear c21
         obtain rfl:=Option.some.inj H
         have p328:0≤(x12_1:Int):=of_decide_eq_true (by first|(with_reducible assumption)|assumption)
         have q328:x12_1<(l0_1.length:Int):=of_decide_eq_true (by first|(with_reducible assumption)|assumption)
         obtain ⟨ad328,e328,hx328_0,hx328_1⟩:=at_T88 HR0_1.out x12_1 p328 q328
         cases e328
         replace hx328_0:=(HB.out.cell (World.block_lt_of_cell? w _ hx328_0)).trans hx328_0
         replace hx328_1:=(HB.out.cell (World.block_lt_of_cell? w _ hx328_1)).trans hx328_1
         replace p328:=eq_true p328
         replace q328:=eq_true q328
         go_wp2_with (first|((with_reducible refine gate_dst (N:=8) rfl ?_);refine box_event ?hg (N:=8) ?hd (cs:=#[.int .i64 0,.int .i64 0]) (t:=88) ?hr ?_;(case hd=>rfl);(case hg=>rfl);(case hr=>first|(go_simp;done)|(go_simp;rfl));intro gb329 hg w22 hbox hb;have n0_:=Aside0.mk (blk_below (g:=gb326) (o:=.cells #[.int .i64 a0_0,.slice (some ad328) l0_1.length c0_1] 30 (0,0)) (by exact BK326.out) hb);have n1_:=Aside0.mk (blk_below (g:=gb327) (o:=.cells #[.bool a1_0,.slice A1_1 l1_1.length c1_1,.slice A1_2 l1_2.length c1_2] 46 (0,0)) (by exact BK327.out) hb);have n2_:=Aside0.mk (below_step (by exact HB.out) hb);have n3_:=Aside0.mk (hbox);have n4_:=Aside0.mk ((by rw [hg];exact (below_size (by exact HB.out)):w.heap.size≤gb329));have n5_:=Aside0.mk ((by rw [hg];exact (below_size (by exact HB.out)):w.heap.size≤gb329));have n6_:=Aside0.mk ((by rw [hg];exact Nat.ne_of_lt (blk_lt (g:=gb326) (o:=.cells #[.int .i64 a0_0,.slice (some ad328) l0_1.length c0_1] 30 (0,0)) (by exact BK326.out)):gb326 ≠ gb329));have n7_:=Aside0.mk ((by rw [hg];exact Nat.ne_of_gt (blk_lt (g:=gb326) (o:=.cells #[.int .i64 a0_0,.slice (some ad328) l0_1.length c0_1] 30 (0,0)) (by exact BK326.out)):gb329 ≠ gb326));have n8_:=Aside0.mk ((by rw [hg];exact Nat.ne_of_lt (blk_lt (g:=gb327) (o:=.cells #[.bool a1_0,.slice A1_1 l1_1.length c1_1,.slice A1_2 l1_2.length c1_2] 46 (0,0)) (by exact BK327.out)):gb327 ≠ gb329));have n9_:=Aside0.mk ((by rw [hg];exact Nat.ne_of_gt (blk_lt (g:=gb327) (o:=.cells #[.bool a1_0,.slice A1_1 l1_1.length c1_1,.slice A1_2 l1_2.length c1_2] 46 (0,0)) (by exact BK327.out)):gb329 ≠ gb327));clear BK326;clear BK327;clear HB;have BK326:=n0_;have BK327:=n1_;have HB:=n2_;have BK329:=n3_;have GW329:=n4_;have GE329:=n5_;have NB326_329:=n6_;have NB329_326:=n7_;have NB327_329:=n8_;have NB329_327:=n9_;clear n0_ n1_ n2_ n3_ n4_ n5_ n6_ n7_ n8_ n9_;clear hb hbox hg;have hnb23:=NB329_326.out;have hnc23:=NB326_329.out;have hnb24:=NB329_327.out;have hnc24:=NB327_329.out;have hcz25_0:w22.cell? ⟨gb329,0,none⟩=some (.int .i64 0):=(blk_cell BK329.out 0).trans rfl;have hcz25_1:w22.cell? ⟨gb329,1,none⟩=some (.int .i64 0):=(blk_cell BK329.out 1).trans rfl;have hfz25_0:=blk_frozen BK329.out 0;have hfz25_1:=blk_frozen BK329.out 1;have hnb26:=NB327_326.out;have hnc26:=NB326_327.out;have hcz27_0:w22.cell? ⟨gb327,0,none⟩=some (.bool a1_0):=(blk_cell BK327.out 0).trans rfl;have hcz27_1:w22.cell? ⟨gb327,1,none⟩=some (.slice A1_1 l1_1.length c1_1):=(blk_cell BK327.out 1).trans rfl;have hcz27_2:w22.cell? ⟨gb327,2,none⟩=some (.slice A1_2 l1_2.length c1_2):=(blk_cell BK327.out 2).trans rfl;have hfz27_0:=blk_frozen BK327.out 0;have hfz27_1:=blk_frozen BK327.out 1;have hfz27_2:=blk_frozen BK327.out 2;have p330:0≤(x12_1:Int):=of_decide_eq_true (by first|(with_reducible assumption)|assumption);have q330:x12_1<(l1_2.length:Int):=of_decide_eq_true (by first|(with_reducible assumption)|assumption);obtain ⟨ad330,e330,hx330_0⟩:=Kd.at_bool HR1_2.out x12_1 p330 q330;(try rw [← Nbq12.out] at hx330_0);cases e330;have hn330_0:ad330.block ≠ gb329:=Nat.ne_of_lt (Nat.lt_of_lt_of_le (by have:=World.block_lt_of_cell? _ _ hx330_0;first|rwa [add_block] at this|exact this) GW329.out);have hn330_1:ad330.block ≠ gb329:=Nat.ne_of_lt (Nat.lt_of_lt_of_le (by have:=World.block_lt_of_cell? _ _ hx330_0;first|rwa [add_block] at this|exact this) GW329.out);replace hx330_0:=(HB.out.cell (World.block_lt_of_cell? w _ hx330_0)).trans hx330_0;replace hx330_0:=(cell_far (p:=⟨gb329,0,none⟩) (by first|(rw [add_block];exact hn330_0)|(show (Addr.add _ _).block ≠ _;rw [add_block];exact hn330_0)|exact hn330_0) (.int .i64 ((rd_T88 l0_1 x12_1).f0))).trans hx330_0;replace hx330_0:=(cell_far (p:=⟨gb329,1,none⟩) (by first|(rw [add_block];exact hn330_1)|(show (Addr.add _ _).block ≠ _;rw [add_block];exact hn330_1)|exact hn330_1) (.int .i64 ((rd_T88 l0_1 x12_1).f1))).trans hx330_0;clear hn330_0;clear hn330_1;replace p330:=eq_true p330;replace q330:=eq_true q330))
         go_ret
         exact ⟨by first|rfl|(simp [errW_none,errW_some] <;> rfl)|(simp [*,errW_none,errW_some] <;> rfl),by repeat (first|(with_reducible first|exact HB.out|apply below_alloc|apply pw_below_drewN|apply below_drew1|refine below_set ?_ GE326.out|refine below_set ?_ GE327.out|refine below_set ?_ GE329.out)|exact HB.out)⟩
        rw [if_neg c21] at H
        have c21b0:(((rd_T88 l0_1 x12_1).f1)==a2)=false:=beq_eq_false_iff_ne.mpr c21
        have c21b1:(((rd_T88 l0_1 x12_1).f1) != a2)=true:=bne_iff_ne.mpr c21
        have H':=Aside0.mk H
        clear H
        have p328:0≤(x12_1:Int):=of_decide_eq_true (by first|(with_reducible assumption)|assumption)
        have q328:x12_1<(l0_1.length:Int):=of_decide_eq_true (by first|(with_reducible assumption)|assumption)
        obtain ⟨ad328,e328,hx328_0,hx328_1⟩:=at_T88 HR0_1.out x12_1 p328 q328
        cases e328
        replace hx328_0:=(HB.out.cell (World.block_lt_of_cell? w _ hx328_0)).trans hx328_0
        replace hx328_1:=(HB.out.cell (World.block_lt_of_cell? w _ hx328_1)).trans hx328_1
        replace p328:=eq_true p328
        replace q328:=eq_true q328
        go_wp2_with (first|((with_reducible refine gate_dst (N:=8) rfl ?_);refine box_event ?hg (N:=8) ?hd (cs:=#[.int .i64 0,.int .i64 0]) (t:=88) ?hr ?_;(case hd=>rfl);(case hg=>rfl);(case hr=>first|(go_simp;done)|(go_simp;rfl));intro gb329 hg w28 hbox hb;have n0_:=Aside0.mk (blk_below (g:=gb326) (o:=.cells #[.int .i64 a0_0,.slice (some ad328) l0_1.length c0_1] 30 (0,0)) (by exact BK326.out) hb);have n1_:=Aside0.mk (blk_below (g:=gb327) (o:=.cells #[.bool a1_0,.slice A1_1 l1_1.length c1_1,.slice A1_2 l1_2.length c1_2] 46 (0,0)) (by exact BK327.out) hb);have n2_:=Aside0.mk (below_step (by exact HB.out) hb);have n3_:=Aside0.mk (hbox);have n4_:=Aside0.mk ((by rw [hg];exact (below_size (by exact HB.out)):w.heap.size≤gb329));have n5_:=Aside0.mk ((by rw [hg];exact (below_size (by exact HB.out)):w.heap.size≤gb329));have n6_:=Aside0.mk ((by rw [hg];exact Nat.ne_of_lt (blk_lt (g:=gb326) (o:=.cells #[.int .i64 a0_0,.slice (some ad328) l0_1.length c0_1] 30 (0,0)) (by exact BK326.out)):gb326 ≠ gb329));have n7_:=Aside0.mk ((by rw [hg];exact Nat.ne_of_gt (blk_lt (g:=gb326) (o:=.cells #[.int .i64 a0_0,.slice (some ad328) l0_1.length c0_1] 30 (0,0)) (by exact BK326.out)):gb329 ≠ gb326));have n8_:=Aside0.mk ((by rw [hg];exact Nat.ne_of_lt (blk_lt (g:=gb327) (o:=.cells #[.bool a1_0,.slice A1_1 l1_1.length c1_1,.slice A1_2 l1_2.length c1_2] 46 (0,0)) (by exact BK327.out)):gb327 ≠ gb329));have n9_:=Aside0.mk ((by rw [hg];exact Nat.ne_of_gt (blk_lt (g:=gb327) (o:=.cells #[.bool a1_0,.slice A1_1 l1_1.length c1_1,.slice A1_2 l1_2.length c1_2] 46 (0,0)) (by exact BK327.out)):gb329 ≠ gb327));clear BK326;clear BK327;clear HB;have BK326:=n0_;have BK327:=n1_;have HB:=n2_;have BK329:=n3_;have GW329:=n4_;have GE329:=n5_;have NB326_329:=n6_;have NB329_326:=n7_;have NB327_329:=n8_;have NB329_327:=n9_;clear n0_ n1_ n2_ n3_ n4_ n5_ n6_ n7_ n8_ n9_;clear hb hbox hg;have hnb29:=NB329_326.out;have hnc29:=NB326_329.out;have hnb30:=NB329_327.out;have hnc30:=NB327_329.out;have hcz31_0:w28.cell? ⟨gb329,0,none⟩=some (.int .i64 0):=(blk_cell BK329.out 0).trans rfl;have hcz31_1:w28.cell? ⟨gb329,1,none⟩=some (.int .i64 0):=(blk_cell BK329.out 1).trans rfl;have hfz31_0:=blk_frozen BK329.out 0;have hfz31_1:=blk_frozen BK329.out 1;have hnb32:=NB327_326.out;have hnc32:=NB326_327.out;have hcz33_0:w28.cell? ⟨gb327,0,none⟩=some (.bool a1_0):=(blk_cell BK327.out 0).trans rfl;have hcz33_1:w28.cell? ⟨gb327,1,none⟩=some (.slice A1_1 l1_1.length c1_1):=(blk_cell BK327.out 1).trans rfl;have hcz33_2:w28.cell? ⟨gb327,2,none⟩=some (.slice A1_2 l1_2.length c1_2):=(blk_cell BK327.out 2).trans rfl;have hfz33_0:=blk_frozen BK327.out 0;have hfz33_1:=blk_frozen BK327.out 1;have hfz33_2:=blk_frozen BK327.out 2;have p330:0≤(x12_1:Int):=of_decide_eq_true (by first|(with_reducible assumption)|assumption);have q330:x12_1<(l1_2.length:Int):=of_decide_eq_true (by first|(with_reducible assumption)|assumption);obtain ⟨ad330,e330,hx330_0⟩:=Kd.at_bool HR1_2.out x12_1 p330 q330;(try rw [← Nbq12.out] at hx330_0);cases e330;have hn330_0:ad330.block ≠ gb329:=Nat.ne_of_lt (Nat.lt_of_lt_of_le (by have:=World.block_lt_of_cell? _ _ hx330_0;first|rwa [add_block] at this|exact this) GW329.out);have hn330_1:ad330.block ≠ gb329:=Nat.ne_of_lt (Nat.lt_of_lt_of_le (by have:=World.block_lt_of_cell? _ _ hx330_0;first|rwa [add_block] at this|exact this) GW329.out);replace hx330_0:=(HB.out.cell (World.block_lt_of_cell? w _ hx330_0)).trans hx330_0;replace hx330_0:=(cell_far (p:=⟨gb329,0,none⟩) (by first|(rw [add_block];exact hn330_0)|(show (Addr.add _ _).block ≠ _;rw [add_block];exact hn330_0)|exact hn330_0) (.int .i64 ((rd_T88 l0_1 x12_1).f0))).trans hx330_0;replace hx330_0:=(cell_far (p:=⟨gb329,1,none⟩) (by first|(rw [add_block];exact hn330_1)|(show (Addr.add _ _).block ≠ _;rw [add_block];exact hn330_1)|exact hn330_1) (.int .i64 ((rd_T88 l0_1 x12_1).f1))).trans hx330_0;clear hn330_0;clear hn330_1;replace p330:=eq_true p330;replace q330:=eq_true q330))
        go_roundg k1
        case measure=>have:=HK1.out;omega
        case rel=>exact ⟨(wrap64 (x12_1+1)),(by first|rfl|(simp;done)|(simp [*];done)),H',⟨by have:=HK1.out;omega⟩,⟨by refine blk_far ?_ NB326_329.out _;refine blk_far ?_ NB326_329.out _;exact BK326.out⟩,⟨by refine blk_far ?_ NB327_329.out _;refine blk_far ?_ NB327_329.out _;exact BK327.out⟩,⟨by repeat (first|(with_reducible first|exact HB.out|apply below_alloc|apply pw_below_drewN|apply below_drew1|refine below_set ?_ GE326.out|refine below_set ?_ GE327.out|refine below_set ?_ GE329.out)|exact HB.out)⟩⟩
       replace c13:=Bool.eq_false_iff.mpr c13
       subst c13
       have H1:(impl_dead.l0 k1 a2 l0_1 (l0_1.length:Int) (wrap64 (x12_1+1)) a1_0 l1_1 l1_2)=some r:=by rw [if_neg (show ¬ (false=true) by decide)] at H;exact H
       clear H
       have H:=H1
       clear H1
       have H':=Aside0.mk H
       clear H
       have p328:0≤(x12_1:Int):=of_decide_eq_true (by first|(with_reducible assumption)|assumption)
       have q328:x12_1<(l0_1.length:Int):=of_decide_eq_true (by first|(with_reducible assumption)|assumption)
       obtain ⟨ad328,e328,hx328_0,hx328_1⟩:=at_T88 HR0_1.out x12_1 p328 q328
       cases e328
       replace hx328_0:=(HB.out.cell (World.block_lt_of_cell? w _ hx328_0)).trans hx328_0
       replace hx328_1:=(HB.out.cell (World.block_lt_of_cell? w _ hx328_1)).trans hx328_1
       replace p328:=eq_true p328
       replace q328:=eq_true q328
       go_wp2_with (first|((with_reducible refine gate_dst (N:=8) rfl ?_);refine box_event ?hg (N:=8) ?hd (cs:=#[.int .i64 0,.int .i64 0]) (t:=88) ?hr ?_;(case hd=>rfl);(case hg=>rfl);(case hr=>first|(go_simp;done)|(go_simp;rfl));intro gb329 hg w34 hbox hb;have n0_:=Aside0.mk (blk_below (g:=gb326) (o:=.cells #[.int .i64 a0_0,.slice (some ad328) l0_1.length c0_1] 30 (0,0)) (by exact BK326.out) hb);have n1_:=Aside0.mk (blk_below (g:=gb327) (o:=.cells #[.bool a1_0,.slice A1_1 l1_1.length c1_1,.slice A1_2 l1_2.length c1_2] 46 (0,0)) (by exact BK327.out) hb);have n2_:=Aside0.mk (below_step (by exact HB.out) hb);have n3_:=Aside0.mk (hbox);have n4_:=Aside0.mk ((by rw [hg];exact (below_size (by exact HB.out)):w.heap.size≤gb329));have n5_:=Aside0.mk ((by rw [hg];exact (below_size (by exact HB.out)):w.heap.size≤gb329));have n6_:=Aside0.mk ((by rw [hg];exact Nat.ne_of_lt (blk_lt (g:=gb326) (o:=.cells #[.int .i64 a0_0,.slice (some ad328) l0_1.length c0_1] 30 (0,0)) (by exact BK326.out)):gb326 ≠ gb329));have n7_:=Aside0.mk ((by rw [hg];exact Nat.ne_of_gt (blk_lt (g:=gb326) (o:=.cells #[.int .i64 a0_0,.slice (some ad328) l0_1.length c0_1] 30 (0,0)) (by exact BK326.out)):gb329 ≠ gb326));have n8_:=Aside0.mk ((by rw [hg];exact Nat.ne_of_lt (blk_lt (g:=gb327) (o:=.cells #[.bool a1_0,.slice A1_1 l1_1.length c1_1,.slice A1_2 l1_2.length c1_2] 46 (0,0)) (by exact BK327.out)):gb327 ≠ gb329));have n9_:=Aside0.mk ((by rw [hg];exact Nat.ne_of_gt (blk_lt (g:=gb327) (o:=.cells #[.bool a1_0,.slice A1_1 l1_1.length c1_1,.slice A1_2 l1_2.length c1_2] 46 (0,0)) (by exact BK327.out)):gb329 ≠ gb327));clear BK326;clear BK327;clear HB;have BK326:=n0_;have BK327:=n1_;have HB:=n2_;have BK329:=n3_;have GW329:=n4_;have GE329:=n5_;have NB326_329:=n6_;have NB329_326:=n7_;have NB327_329:=n8_;have NB329_327:=n9_;clear n0_ n1_ n2_ n3_ n4_ n5_ n6_ n7_ n8_ n9_;clear hb hbox hg;have hnb35:=NB329_326.out;have hnc35:=NB326_329.out;have hnb36:=NB329_327.out;have hnc36:=NB327_329.out;have hcz37_0:w34.cell? ⟨gb329,0,none⟩=some (.int .i64 0):=(blk_cell BK329.out 0).trans rfl;have hcz37_1:w34.cell? ⟨gb329,1,none⟩=some (.int .i64 0):=(blk_cell BK329.out 1).trans rfl;have hfz37_0:=blk_frozen BK329.out 0;have hfz37_1:=blk_frozen BK329.out 1;have hnb38:=NB327_326.out;have hnc38:=NB326_327.out;have hcz39_0:w34.cell? ⟨gb327,0,none⟩=some (.bool a1_0):=(blk_cell BK327.out 0).trans rfl;have hcz39_1:w34.cell? ⟨gb327,1,none⟩=some (.slice A1_1 l1_1.length c1_1):=(blk_cell BK327.out 1).trans rfl;have hcz39_2:w34.cell? ⟨gb327,2,none⟩=some (.slice A1_2 l1_2.length c1_2):=(blk_cell BK327.out 2).trans rfl;have hfz39_0:=blk_frozen BK327.out 0;have hfz39_1:=blk_frozen BK327.out 1;have hfz39_2:=blk_frozen BK327.out 2;have p330:0≤(x12_1:Int):=of_decide_eq_true (by first|(with_reducible assumption)|assumption);have q330:x12_1<(l1_2.length:Int):=of_decide_eq_true (by first|(with_reducible assumption)|assumption);obtain ⟨ad330,e330,hx330_0⟩:=Kd.at_bool HR1_2.out x12_1 p330 q330;(try rw [← Nbq12.out] at hx330_0);cases e330;have hn330_0:ad330.block ≠ gb329:=Nat.ne_of_lt (Nat.lt_of_lt_of_le (by have:=World.block_lt_of_cell? _ _ hx330_0;first|rwa [add_block] at this|exact this) GW329.out);have hn330_1:ad330.block ≠ gb329:=Nat.ne_of_lt (Nat.lt_of_lt_of_le (by have:=World.block_lt_of_cell? _ _ hx330_0;first|rwa [add_block] at this|exact this) GW329.out);replace hx330_0:=(HB.out.cell (World.block_lt_of_cell? w _ hx330_0)).trans hx330_0;replace hx330_0:=(cell_far (p:=⟨gb329,0,none⟩) (by first|(rw [add_block];exact hn330_0)|(show (Addr.add _ _).block ≠ _;rw [add_block];exact hn330_0)|exact hn330_0) (.int .i64 ((rd_T88 l0_1 x12_1).f0))).trans hx330_0;replace hx330_0:=(cell_far (p:=⟨gb329,1,none⟩) (by first|(rw [add_block];exact hn330_1)|(show (Addr.add _ _).block ≠ _;rw [add_block];exact hn330_1)|exact hn330_1) (.int .i64 ((rd_T88 l0_1 x12_1).f1))).trans hx330_0;clear hn330_0;clear hn330_1;replace p330:=eq_true p330;replace q330:=eq_true q330))
       go_roundg k1
       case measure=>have:=HK1.out;omega
       case rel=>exact ⟨(wrap64 (x12_1+1)),(by first|rfl|(simp;done)|(simp [*];done)),H',⟨by have:=HK1.out;omega⟩,⟨by refine blk_far ?_ NB326_329.out _;refine blk_far ?_ NB326_329.out _;exact BK326.out⟩,⟨by refine blk_far ?_ NB327_329.out _;refine blk_far ?_ NB327_329.out _;exact BK327.out⟩,⟨by repeat (first|(with_reducible first|exact HB.out|apply below_alloc|apply pw_below_drewN|apply below_drew1|refine below_set ?_ GE326.out|refine below_set ?_ GE327.out|refine below_set ?_ GE329.out)|exact HB.out)⟩⟩
      rw [if_neg c11] at H
      exact absurd H (by simp)
     rw [if_neg c10] at H
     exact absurd H (by simp)
    rw [if_neg c9] at H
    exact absurd H (by simp)
   rw [if_neg c8] at H
   have c8b0:decide (x12_1<(l0_1.length:Int))=false:=decide_eq_false c8
   clear c8
   obtain rfl:=Option.some.inj H
   go_wp2
   go_ret
   exact ⟨by first|rfl|(simp [errW_none,errW_some] <;> rfl)|(simp [*,errW_none,errW_some] <;> rfl),by exact HB.out⟩
end Go.Proofs.Ytpdnabhpkdchjaa.P
namespace Go.Proofs.Ytpdnabhpkdchjaa.P
open Go.RowKit Go.Proofs.YtpdnabhpkdchjaaW.PrintWords Go.Proofs.YtpdnabhpkdchjaaW.PrintLast Go.Proofs.YtpdnabhpkdchjaaW.PrintMore
attribute [local go_sem] max2_int min2_int max_two min_two max_three min_three max_four min_four
set_option linter.unusedVariables false
set_option linter.unusedSimpArgs false
def impl_told.j0:Nat→Bool→Int→Int→Bool→Bool→Int→Option (Int)
 | 0,_,_,_,_,_,_=>none
 | k+1,x18,x335000,x335001,x335002,x335003,x335004=>if x18=true then (some 1) else (if x335003=true then (some 2) else (some 0))
def impl_told.f (k:Nat) (a0_0:Int) (l0_1:List (S88)) (a1_0:Bool) (l1_1:List (S50)) (l1_2:List Bool) (a2:Int):Option (Int):=if 0≤a2 then (if a2<(l1_1.length:Int) then ((impl_dead.f k a0_0 l0_1 a1_0 l1_1 l1_2 a2).bind fun t335=>(if t335=true then (some 3) else (if (rd_T50 l1_1 a2).f2=true then (impl_told.j0 k true ((rd_T50 l1_1 a2).f0) ((rd_T50 l1_1 a2).f1) ((rd_T50 l1_1 a2).f2) ((rd_T50 l1_1 a2).f3) ((rd_T50 l1_1 a2).f4)) else (if ((rd_T50 l1_1 a2).f1)=0 then (impl_told.j0 k false ((rd_T50 l1_1 a2).f0) ((rd_T50 l1_1 a2).f1) ((rd_T50 l1_1 a2).f2) ((rd_T50 l1_1 a2).f3) ((rd_T50 l1_1 a2).f4)) else (impl_told.j0 k (!((rd_T50 l1_1 a2).f3)) ((rd_T50 l1_1 a2).f0) ((rd_T50 l1_1 a2).f1) ((rd_T50 l1_1 a2).f2) ((rd_T50 l1_1 a2).f3) ((rd_T50 l1_1 a2).f4)))))) else (none)) else (none)
set_option maxHeartbeats 8000000 in
set_option maxRecDepth 100000 in
theorem impl_told.calls (k:Nat) (a0_0:Int) (A0_1:Option Addr) (c0_1:Nat) (l0_1:List (S88)) (a1_0:Bool) (A1_1:Option Addr) (c1_1:Nat) (l1_1:List (S50)) (A1_2:Option Addr) (c1_2:Nat) (l1_2:List Bool) (a2:Int) (r:Int) (w:World) (hr0_1:Kd.C k88 w A0_1 l0_1.length l0_1) (hc0_1:l0_1.length≤c0_1) (hr1_1:Kd.C k50 w A1_1 l1_1.length l1_1) (hc1_1:l1_1.length≤c1_1) (hr1_2:Kd.C Kd.bool w A1_2 l1_2.length l1_2) (hc1_2:l1_2.length≤c1_2) (h:impl_told.f k a0_0 l0_1 a1_0 l1_1 l1_2 a2=some r) :
  Calls Try.prog 97 #[.agg #[.int .i64 a0_0,.slice A0_1 l0_1.length c0_1],.agg #[.bool a1_0,.slice A1_1 l1_1.length c1_1,.slice A1_2 l1_2.length c1_2],.int .i64 a2] w fun e w'=>e=.returned (.int .i64 r)∧Below w.heap.size w w':=by
 have hu30:=Try.underlying30
 have hu46:=Try.underlying46
 have hu50:=Try.underlying50
 have HR0_1:=Aside0.mk hr0_1
 have HC0_1:=Aside0.mk hc0_1
 clear hr0_1 hc0_1
 have HR1_1:=Aside0.mk hr1_1
 have HC1_1:=Aside0.mk hc1_1
 clear hr1_1 hc1_1
 have HR1_2:=Aside0.mk hr1_2
 have HC1_2:=Aside0.mk hc1_2
 clear hr1_2 hc1_2
 have HB:=Aside0.mk (Below.refl w.heap.size w)
 have H:(if 0≤a2 then (if a2<(l1_1.length:Int) then ((impl_dead.f k a0_0 l0_1 a1_0 l1_1 l1_2 a2).bind fun t335=>(if t335=true then (some 3) else (if (rd_T50 l1_1 a2).f2=true then (impl_told.j0 k true ((rd_T50 l1_1 a2).f0) ((rd_T50 l1_1 a2).f1) ((rd_T50 l1_1 a2).f2) ((rd_T50 l1_1 a2).f3) ((rd_T50 l1_1 a2).f4)) else (if ((rd_T50 l1_1 a2).f1)=0 then (impl_told.j0 k false ((rd_T50 l1_1 a2).f0) ((rd_T50 l1_1 a2).f1) ((rd_T50 l1_1 a2).f2) ((rd_T50 l1_1 a2).f3) ((rd_T50 l1_1 a2).f4)) else (impl_told.j0 k (!((rd_T50 l1_1 a2).f3)) ((rd_T50 l1_1 a2).f0) ((rd_T50 l1_1 a2).f1) ((rd_T50 l1_1 a2).f2) ((rd_T50 l1_1 a2).f3) ((rd_T50 l1_1 a2).f4)))))) else (none)) else (none))=some r:=h
 clear h
 by_cases c4:0≤a2
 ·rw [if_pos c4] at H
  have c4b0:decide (0≤a2)=true:=decide_eq_true c4
  clear c4
  by_cases c5:a2<(l1_1.length:Int)
  ·rw [if_pos c5] at H
   have c5b0:decide (a2<(l1_1.length:Int))=true:=decide_eq_true c5
   clear c5
   replace H:=Option.bind_eq_some_iff.mp H
   obtain ⟨t335,A60,H⟩:=H
   replace H:(if t335=true then (some 3) else (if (rd_T50 l1_1 a2).f2=true then (impl_told.j0 k true ((rd_T50 l1_1 a2).f0) ((rd_T50 l1_1 a2).f1) ((rd_T50 l1_1 a2).f2) ((rd_T50 l1_1 a2).f3) ((rd_T50 l1_1 a2).f4)) else (if ((rd_T50 l1_1 a2).f1)=0 then (impl_told.j0 k false ((rd_T50 l1_1 a2).f0) ((rd_T50 l1_1 a2).f1) ((rd_T50 l1_1 a2).f2) ((rd_T50 l1_1 a2).f3) ((rd_T50 l1_1 a2).f4)) else (impl_told.j0 k (!((rd_T50 l1_1 a2).f3)) ((rd_T50 l1_1 a2).f0) ((rd_T50 l1_1 a2).f1) ((rd_T50 l1_1 a2).f2) ((rd_T50 l1_1 a2).f3) ((rd_T50 l1_1 a2).f4)))))=some r:=H
   have A6:=Aside0.mk A60
   clear A60
   by_cases c7:t335=true
   ·subst c7
    have H1:(some 3)=some r:=by rw [if_pos rfl] at H;exact H
    clear H
    have H:=H1
    clear H1
    obtain rfl:=Option.some.inj H
    go_enter Try.func97,Try.ntmps97
    go_wp2_with (first|((with_reducible refine gate_dst (N:=3) rfl ?_);refine box_event ?hg (N:=3) ?hd (cs:=#[.int .i64 a0_0,.slice A0_1 l0_1.length c0_1]) (t:=30) ?hr ?_;(case hd=>rfl);(case hg=>rfl);(case hr=>first|(go_simp;done)|(go_simp;rfl));intro gb331 hg w8 hbox hb;have n0_:=Aside0.mk (below_step (by exact HB.out) hb);have n1_:=Aside0.mk (hbox);have n2_:=Aside0.mk ((by rw [hg];exact (below_size (by exact HB.out)):w.heap.size≤gb331));have n3_:=Aside0.mk ((by rw [hg];exact (below_size (by exact HB.out)):w.heap.size≤gb331));clear HB;have HB:=n0_;have BK331:=n1_;have GW331:=n2_;have GE331:=n3_;clear n0_ n1_ n2_ n3_;clear hb hbox hg)|((with_reducible refine gate_dst (N:=4) rfl ?_);refine box_event ?hg (N:=4) ?hd (cs:=#[.bool a1_0,.slice A1_1 l1_1.length c1_1,.slice A1_2 l1_2.length c1_2]) (t:=46) ?hr ?_;(case hd=>rfl);(case hg=>rfl);(case hr=>first|(go_simp;done)|(go_simp;rfl));intro gb332 hg w9 hbox hb;have n0_:=Aside0.mk (blk_below (g:=gb331) (o:=.cells #[.int .i64 a0_0,.slice A0_1 l0_1.length c0_1] 30 (0,0)) (by exact BK331.out) hb);have n1_:=Aside0.mk (below_step (by exact HB.out) hb);have n2_:=Aside0.mk (hbox);have n3_:=Aside0.mk ((by rw [hg];exact (below_size (by exact HB.out)):w.heap.size≤gb332));have n4_:=Aside0.mk ((by rw [hg];exact (below_size (by exact HB.out)):w.heap.size≤gb332));have n5_:=Aside0.mk ((by rw [hg];exact Nat.ne_of_lt (blk_lt (g:=gb331) (o:=.cells #[.int .i64 a0_0,.slice A0_1 l0_1.length c0_1] 30 (0,0)) (by exact BK331.out)):gb331 ≠ gb332));have n6_:=Aside0.mk ((by rw [hg];exact Nat.ne_of_gt (blk_lt (g:=gb331) (o:=.cells #[.int .i64 a0_0,.slice A0_1 l0_1.length c0_1] 30 (0,0)) (by exact BK331.out)):gb332 ≠ gb331));clear BK331;clear HB;have BK331:=n0_;have HB:=n1_;have BK332:=n2_;have GW332:=n3_;have GE332:=n4_;have NB331_332:=n5_;have NB332_331:=n6_;clear n0_ n1_ n2_ n3_ n4_ n5_ n6_;clear hb hbox hg;have hnb10:=NB332_331.out;have hnc10:=NB331_332.out;have hcz11_0:w9.cell? ⟨gb332,0,none⟩=some (.bool a1_0):=(blk_cell BK332.out 0).trans rfl;have hcz11_1:w9.cell? ⟨gb332,1,none⟩=some (.slice A1_1 l1_1.length c1_1):=(blk_cell BK332.out 1).trans rfl;have hcz11_2:w9.cell? ⟨gb332,2,none⟩=some (.slice A1_2 l1_2.length c1_2):=(blk_cell BK332.out 2).trans rfl;have hfz11_0:=blk_frozen BK332.out 0;have hfz11_1:=blk_frozen BK332.out 1;have hfz11_2:=blk_frozen BK332.out 2;have p333:0≤(a2:Int):=of_decide_eq_true (by first|(with_reducible assumption)|assumption);have q333:a2<(l1_1.length:Int):=of_decide_eq_true (by first|(with_reducible assumption)|assumption);obtain ⟨ad333,e333,hx333_0,hx333_1,hx333_2,hx333_3,hx333_4⟩:=at_T50 HR1_1.out a2 p333 q333;cases e333;replace hx333_0:=(HB.out.cell (World.block_lt_of_cell? w _ hx333_0)).trans hx333_0;replace hx333_1:=(HB.out.cell (World.block_lt_of_cell? w _ hx333_1)).trans hx333_1;replace hx333_2:=(HB.out.cell (World.block_lt_of_cell? w _ hx333_2)).trans hx333_2;replace hx333_3:=(HB.out.cell (World.block_lt_of_cell? w _ hx333_3)).trans hx333_3;replace hx333_4:=(HB.out.cell (World.block_lt_of_cell? w _ hx333_4)).trans hx333_4;replace p333:=eq_true p333;replace q333:=eq_true q333)|((with_reducible refine gate_dst (N:=7) rfl ?_);refine box_event ?hg (N:=7) ?hd (cs:=#[.int .i64 0,.int .i64 0,.bool false,.bool false,.int .i64 0]) (t:=50) ?hr ?_;(case hd=>rfl);(case hg=>rfl);(case hr=>first|(go_simp;done)|(go_simp;rfl));intro gb334 hg w12 hbox hb;have n0_:=Aside0.mk (blk_below (g:=gb331) (o:=.cells #[.int .i64 a0_0,.slice A0_1 l0_1.length c0_1] 30 (0,0)) (by exact BK331.out) hb);have n1_:=Aside0.mk (blk_below (g:=gb332) (o:=.cells #[.bool a1_0,.slice (some ad333) l1_1.length c1_1,.slice A1_2 l1_2.length c1_2] 46 (0,0)) (by exact BK332.out) hb);have n2_:=Aside0.mk (below_step (by exact HB.out) hb);have n3_:=Aside0.mk (hbox);have n4_:=Aside0.mk ((by rw [hg];exact (below_size (by exact HB.out)):w.heap.size≤gb334));have n5_:=Aside0.mk ((by rw [hg];exact (below_size (by exact HB.out)):w.heap.size≤gb334));have n6_:=Aside0.mk ((by rw [hg];exact Nat.ne_of_lt (blk_lt (g:=gb331) (o:=.cells #[.int .i64 a0_0,.slice A0_1 l0_1.length c0_1] 30 (0,0)) (by exact BK331.out)):gb331 ≠ gb334));have n7_:=Aside0.mk ((by rw [hg];exact Nat.ne_of_gt (blk_lt (g:=gb331) (o:=.cells #[.int .i64 a0_0,.slice A0_1 l0_1.length c0_1] 30 (0,0)) (by exact BK331.out)):gb334 ≠ gb331));have n8_:=Aside0.mk ((by rw [hg];exact Nat.ne_of_lt (blk_lt (g:=gb332) (o:=.cells #[.bool a1_0,.slice (some ad333) l1_1.length c1_1,.slice A1_2 l1_2.length c1_2] 46 (0,0)) (by (with_reducible repeat (first|refine blk_drewN ?_ _|refine blk_drew ?_|refine blk_alloc ?_ _));exact BK332.out)):gb332 ≠ gb334));have n9_:=Aside0.mk ((by rw [hg];exact Nat.ne_of_gt (blk_lt (g:=gb332) (o:=.cells #[.bool a1_0,.slice (some ad333) l1_1.length c1_1,.slice A1_2 l1_2.length c1_2] 46 (0,0)) (by (with_reducible repeat (first|refine blk_drewN ?_ _|refine blk_drew ?_|refine blk_alloc ?_ _));exact BK332.out)):gb334 ≠ gb332));clear BK331;clear BK332;clear HB;have BK331:=n0_;have BK332:=n1_;have HB:=n2_;have BK334:=n3_;have GW334:=n4_;have GE334:=n5_;have NB331_334:=n6_;have NB334_331:=n7_;have NB332_334:=n8_;have NB334_332:=n9_;clear n0_ n1_ n2_ n3_ n4_ n5_ n6_ n7_ n8_ n9_;clear hb hbox hg;have hnb13:=NB334_331.out;have hnc13:=NB331_334.out;have hnb14:=NB334_332.out;have hnc14:=NB332_334.out;have hcz15_0:w12.cell? ⟨gb334,0,none⟩=some (.int .i64 0):=(blk_cell BK334.out 0).trans rfl;have hcz15_1:w12.cell? ⟨gb334,1,none⟩=some (.int .i64 0):=(blk_cell BK334.out 1).trans rfl;have hcz15_2:w12.cell? ⟨gb334,2,none⟩=some (.bool false):=(blk_cell BK334.out 2).trans rfl;have hcz15_3:w12.cell? ⟨gb334,3,none⟩=some (.bool false):=(blk_cell BK334.out 3).trans rfl;have hcz15_4:w12.cell? ⟨gb334,4,none⟩=some (.int .i64 0):=(blk_cell BK334.out 4).trans rfl;have hfz15_0:=blk_frozen BK334.out 0;have hfz15_1:=blk_frozen BK334.out 1;have hfz15_2:=blk_frozen BK334.out 2;have hfz15_3:=blk_frozen BK334.out 3;have hfz15_4:=blk_frozen BK334.out 4;have hcz16_0:w12.cell? ⟨gb331,0,none⟩=some (.int .i64 a0_0):=(blk_cell BK331.out 0).trans rfl;have hcz16_1:w12.cell? ⟨gb331,1,none⟩=some (.slice A0_1 l0_1.length c0_1):=(blk_cell BK331.out 1).trans rfl;have hfz16_0:=blk_frozen BK331.out 0;have hfz16_1:=blk_frozen BK331.out 1;have hcz17_0:w12.cell? ⟨gb332,0,none⟩=some (.bool a1_0):=(blk_cell BK332.out 0).trans rfl;have hcz17_1:w12.cell? ⟨gb332,1,none⟩=some (.slice (some ad333) l1_1.length c1_1):=(blk_cell BK332.out 1).trans rfl;have hcz17_2:w12.cell? ⟨gb332,2,none⟩=some (.slice A1_2 l1_2.length c1_2):=(blk_cell BK332.out 2).trans rfl;have hfz17_0:=blk_frozen BK332.out 0;have hfz17_1:=blk_frozen BK332.out 1;have hfz17_2:=blk_frozen BK332.out 2)|((with_reducible refine gate_callee (f:=98) rfl ?_);refine goesL_ (some 17) rfl rfl Try.func98 (by kernel_rfl) rfl #[.agg #[.int .i64 a0_0,.slice A0_1 l0_1.length c0_1],.agg #[.bool a1_0,.slice (some ad333) l1_1.length c1_1,.slice A1_2 l1_2.length c1_2],.int .i64 a2] rfl (by (try simp only [List.map_toArray,List.map_cons,List.map_nil]);first|done|rfl|(simp only [List.length_drop,List.length_take];rfl)) ?_;(with_reducible refine (impl_dead.calls k a0_0 _ _ l0_1 a1_0 _ _ l1_1 _ _ l1_2 a2 true _ ?side1 ?side2 ?side3 ?side4 ?side5 ?side6 A6.out).mono ?_);(case side1=>exact Kd.C_below HR0_1.out (by repeat (first|(with_reducible first|exact HB.out|apply below_alloc|apply pw_below_drewN|apply below_drew1|refine below_set ?_ GE331.out|refine below_set ?_ GE332.out|refine below_set ?_ GE334.out)|exact HB.out)));(case side2=>exact HC0_1.out);(case side3=>exact Kd.C_below HR1_1.out (by repeat (first|(with_reducible first|exact HB.out|apply below_alloc|apply pw_below_drewN|apply below_drew1|refine below_set ?_ GE331.out|refine below_set ?_ GE332.out|refine below_set ?_ GE334.out)|exact HB.out)));(case side4=>exact HC1_1.out);(case side5=>exact Kd.C_below HR1_2.out (by repeat (first|(with_reducible first|exact HB.out|apply below_alloc|apply pw_below_drewN|apply below_drew1|refine below_set ?_ GE331.out|refine below_set ?_ GE332.out|refine below_set ?_ GE334.out)|exact HB.out)));(case side6=>exact HC1_2.out);rintro e w18 ⟨rfl,hb⟩;refine ⟨_,rfl,?_⟩;have n0_:=Aside0.mk (blk_below (g:=gb331) (o:=.cells #[.int .i64 a0_0,.slice A0_1 l0_1.length c0_1] 30 (0,0)) (by (with_reducible repeat (first|refine blk_drewN ?_ _|refine blk_drew ?_|refine blk_alloc ?_ _));refine blk_far ?_ NB331_334.out _;(with_reducible repeat (first|refine blk_drewN ?_ _|refine blk_drew ?_|refine blk_alloc ?_ _));refine blk_far ?_ NB331_334.out _;(with_reducible repeat (first|refine blk_drewN ?_ _|refine blk_drew ?_|refine blk_alloc ?_ _));refine blk_far ?_ NB331_334.out _;(with_reducible repeat (first|refine blk_drewN ?_ _|refine blk_drew ?_|refine blk_alloc ?_ _));refine blk_far ?_ NB331_334.out _;(with_reducible repeat (first|refine blk_drewN ?_ _|refine blk_drew ?_|refine blk_alloc ?_ _));refine blk_far ?_ NB331_334.out _;(with_reducible repeat (first|refine blk_drewN ?_ _|refine blk_drew ?_|refine blk_alloc ?_ _));exact BK331.out) hb);have n1_:=Aside0.mk (blk_below (g:=gb332) (o:=.cells #[.bool a1_0,.slice (some ad333) l1_1.length c1_1,.slice A1_2 l1_2.length c1_2] 46 (0,0)) (by (with_reducible repeat (first|refine blk_drewN ?_ _|refine blk_drew ?_|refine blk_alloc ?_ _));refine blk_far ?_ NB332_334.out _;(with_reducible repeat (first|refine blk_drewN ?_ _|refine blk_drew ?_|refine blk_alloc ?_ _));refine blk_far ?_ NB332_334.out _;(with_reducible repeat (first|refine blk_drewN ?_ _|refine blk_drew ?_|refine blk_alloc ?_ _));refine blk_far ?_ NB332_334.out _;(with_reducible repeat (first|refine blk_drewN ?_ _|refine blk_drew ?_|refine blk_alloc ?_ _));refine blk_far ?_ NB332_334.out _;(with_reducible repeat (first|refine blk_drewN ?_ _|refine blk_drew ?_|refine blk_alloc ?_ _));refine blk_far ?_ NB332_334.out _;(with_reducible repeat (first|refine blk_drewN ?_ _|refine blk_drew ?_|refine blk_alloc ?_ _));exact BK332.out) hb);have n2_:=Aside0.mk (blk_below (g:=gb334) (o:=.cells #[.int .i64 ((rd_T50 l1_1 a2).f0),.int .i64 ((rd_T50 l1_1 a2).f1),.bool ((rd_T50 l1_1 a2).f2),.bool ((rd_T50 l1_1 a2).f3),.int .i64 ((rd_T50 l1_1 a2).f4)] 50 (0,0)) (by (with_reducible repeat (first|refine blk_drewN ?_ _|refine blk_drew ?_|refine blk_alloc ?_ _));refine blk_put (cs:=#[.int .i64 ((rd_T50 l1_1 a2).f0),.int .i64 ((rd_T50 l1_1 a2).f1),.bool ((rd_T50 l1_1 a2).f2),.bool ((rd_T50 l1_1 a2).f3),.int .i64 0]) ?_ 4 _ rfl;(with_reducible repeat (first|refine blk_drewN ?_ _|refine blk_drew ?_|refine blk_alloc ?_ _));refine blk_put (cs:=#[.int .i64 ((rd_T50 l1_1 a2).f0),.int .i64 ((rd_T50 l1_1 a2).f1),.bool ((rd_T50 l1_1 a2).f2),.bool false,.int .i64 0]) ?_ 3 _ rfl;(with_reducible repeat (first|refine blk_drewN ?_ _|refine blk_drew ?_|refine blk_alloc ?_ _));refine blk_put (cs:=#[.int .i64 ((rd_T50 l1_1 a2).f0),.int .i64 ((rd_T50 l1_1 a2).f1),.bool false,.bool false,.int .i64 0]) ?_ 2 _ rfl;(with_reducible repeat (first|refine blk_drewN ?_ _|refine blk_drew ?_|refine blk_alloc ?_ _));refine blk_put (cs:=#[.int .i64 ((rd_T50 l1_1 a2).f0),.int .i64 0,.bool false,.bool false,.int .i64 0]) ?_ 1 _ rfl;(with_reducible repeat (first|refine blk_drewN ?_ _|refine blk_drew ?_|refine blk_alloc ?_ _));refine blk_put (cs:=#[.int .i64 0,.int .i64 0,.bool false,.bool false,.int .i64 0]) ?_ 0 _ rfl;(with_reducible repeat (first|refine blk_drewN ?_ _|refine blk_drew ?_|refine blk_alloc ?_ _));exact BK334.out) hb);have n3_:=Aside0.mk (below_step (by repeat (first|(with_reducible first|exact HB.out|apply below_alloc|apply pw_below_drewN|apply below_drew1|refine below_set ?_ GE331.out|refine below_set ?_ GE332.out|refine below_set ?_ GE334.out)|exact HB.out)) hb);clear BK331;clear BK332;clear BK334;clear HB;have BK331:=n0_;have BK332:=n1_;have BK334:=n2_;have HB:=n3_;clear n0_ n1_ n2_ n3_;(try clear hb);(try clear hb2);(try clear hk);(try clear hi)))
    go_ret
    exact ⟨by first|rfl|(simp [errW_none,errW_some] <;> rfl)|(simp [*,errW_none,errW_some] <;> rfl),by exact HB.out⟩
   replace c7:=Bool.eq_false_iff.mpr c7
   subst c7
   have H1:(if (rd_T50 l1_1 a2).f2=true then (impl_told.j0 k true ((rd_T50 l1_1 a2).f0) ((rd_T50 l1_1 a2).f1) ((rd_T50 l1_1 a2).f2) ((rd_T50 l1_1 a2).f3) ((rd_T50 l1_1 a2).f4)) else (if ((rd_T50 l1_1 a2).f1)=0 then (impl_told.j0 k false ((rd_T50 l1_1 a2).f0) ((rd_T50 l1_1 a2).f1) ((rd_T50 l1_1 a2).f2) ((rd_T50 l1_1 a2).f3) ((rd_T50 l1_1 a2).f4)) else (impl_told.j0 k (!((rd_T50 l1_1 a2).f3)) ((rd_T50 l1_1 a2).f0) ((rd_T50 l1_1 a2).f1) ((rd_T50 l1_1 a2).f2) ((rd_T50 l1_1 a2).f3) ((rd_T50 l1_1 a2).f4))))=some r:=by rw [if_neg (show ¬ (false=true) by decide)] at H;exact H
   clear H
   have H:=H1
   clear H1
   have HC19:=Aside0.mk H
   clear H
   go_enter Try.func97,Try.ntmps97
   go_upto_region 4 with (first|((with_reducible refine gate_dst (N:=3) rfl ?_);refine box_event ?hg (N:=3) ?hd (cs:=#[.int .i64 a0_0,.slice A0_1 l0_1.length c0_1]) (t:=30) ?hr ?_;(case hd=>rfl);(case hg=>rfl);(case hr=>first|(go_simp;done)|(go_simp;rfl));intro gb331 hg w20 hbox hb;have n0_:=Aside0.mk (below_step (by exact HB.out) hb);have n1_:=Aside0.mk (hbox);have n2_:=Aside0.mk ((by rw [hg];exact (below_size (by exact HB.out)):w.heap.size≤gb331));have n3_:=Aside0.mk ((by rw [hg];exact (below_size (by exact HB.out)):w.heap.size≤gb331));clear HB;have HB:=n0_;have BK331:=n1_;have GW331:=n2_;have GE331:=n3_;clear n0_ n1_ n2_ n3_;clear hb hbox hg)|((with_reducible refine gate_dst (N:=4) rfl ?_);refine box_event ?hg (N:=4) ?hd (cs:=#[.bool a1_0,.slice A1_1 l1_1.length c1_1,.slice A1_2 l1_2.length c1_2]) (t:=46) ?hr ?_;(case hd=>rfl);(case hg=>rfl);(case hr=>first|(go_simp;done)|(go_simp;rfl));intro gb332 hg w21 hbox hb;have n0_:=Aside0.mk (blk_below (g:=gb331) (o:=.cells #[.int .i64 a0_0,.slice A0_1 l0_1.length c0_1] 30 (0,0)) (by exact BK331.out) hb);have n1_:=Aside0.mk (below_step (by exact HB.out) hb);have n2_:=Aside0.mk (hbox);have n3_:=Aside0.mk ((by rw [hg];exact (below_size (by exact HB.out)):w.heap.size≤gb332));have n4_:=Aside0.mk ((by rw [hg];exact (below_size (by exact HB.out)):w.heap.size≤gb332));have n5_:=Aside0.mk ((by rw [hg];exact Nat.ne_of_lt (blk_lt (g:=gb331) (o:=.cells #[.int .i64 a0_0,.slice A0_1 l0_1.length c0_1] 30 (0,0)) (by exact BK331.out)):gb331 ≠ gb332));have n6_:=Aside0.mk ((by rw [hg];exact Nat.ne_of_gt (blk_lt (g:=gb331) (o:=.cells #[.int .i64 a0_0,.slice A0_1 l0_1.length c0_1] 30 (0,0)) (by exact BK331.out)):gb332 ≠ gb331));clear BK331;clear HB;have BK331:=n0_;have HB:=n1_;have BK332:=n2_;have GW332:=n3_;have GE332:=n4_;have NB331_332:=n5_;have NB332_331:=n6_;clear n0_ n1_ n2_ n3_ n4_ n5_ n6_;clear hb hbox hg;have hnb22:=NB332_331.out;have hnc22:=NB331_332.out;have hcz23_0:w21.cell? ⟨gb332,0,none⟩=some (.bool a1_0):=(blk_cell BK332.out 0).trans rfl;have hcz23_1:w21.cell? ⟨gb332,1,none⟩=some (.slice A1_1 l1_1.length c1_1):=(blk_cell BK332.out 1).trans rfl;have hcz23_2:w21.cell? ⟨gb332,2,none⟩=some (.slice A1_2 l1_2.length c1_2):=(blk_cell BK332.out 2).trans rfl;have hfz23_0:=blk_frozen BK332.out 0;have hfz23_1:=blk_frozen BK332.out 1;have hfz23_2:=blk_frozen BK332.out 2;have p333:0≤(a2:Int):=of_decide_eq_true (by first|(with_reducible assumption)|assumption);have q333:a2<(l1_1.length:Int):=of_decide_eq_true (by first|(with_reducible assumption)|assumption);obtain ⟨ad333,e333,hx333_0,hx333_1,hx333_2,hx333_3,hx333_4⟩:=at_T50 HR1_1.out a2 p333 q333;cases e333;replace hx333_0:=(HB.out.cell (World.block_lt_of_cell? w _ hx333_0)).trans hx333_0;replace hx333_1:=(HB.out.cell (World.block_lt_of_cell? w _ hx333_1)).trans hx333_1;replace hx333_2:=(HB.out.cell (World.block_lt_of_cell? w _ hx333_2)).trans hx333_2;replace hx333_3:=(HB.out.cell (World.block_lt_of_cell? w _ hx333_3)).trans hx333_3;replace hx333_4:=(HB.out.cell (World.block_lt_of_cell? w _ hx333_4)).trans hx333_4;replace p333:=eq_true p333;replace q333:=eq_true q333)|((with_reducible refine gate_dst (N:=7) rfl ?_);refine box_event ?hg (N:=7) ?hd (cs:=#[.int .i64 0,.int .i64 0,.bool false,.bool false,.int .i64 0]) (t:=50) ?hr ?_;(case hd=>rfl);(case hg=>rfl);(case hr=>first|(go_simp;done)|(go_simp;rfl));intro gb334 hg w24 hbox hb;have n0_:=Aside0.mk (blk_below (g:=gb331) (o:=.cells #[.int .i64 a0_0,.slice A0_1 l0_1.length c0_1] 30 (0,0)) (by exact BK331.out) hb);have n1_:=Aside0.mk (blk_below (g:=gb332) (o:=.cells #[.bool a1_0,.slice (some ad333) l1_1.length c1_1,.slice A1_2 l1_2.length c1_2] 46 (0,0)) (by exact BK332.out) hb);have n2_:=Aside0.mk (below_step (by exact HB.out) hb);have n3_:=Aside0.mk (hbox);have n4_:=Aside0.mk ((by rw [hg];exact (below_size (by exact HB.out)):w.heap.size≤gb334));have n5_:=Aside0.mk ((by rw [hg];exact (below_size (by exact HB.out)):w.heap.size≤gb334));have n6_:=Aside0.mk ((by rw [hg];exact Nat.ne_of_lt (blk_lt (g:=gb331) (o:=.cells #[.int .i64 a0_0,.slice A0_1 l0_1.length c0_1] 30 (0,0)) (by exact BK331.out)):gb331 ≠ gb334));have n7_:=Aside0.mk ((by rw [hg];exact Nat.ne_of_gt (blk_lt (g:=gb331) (o:=.cells #[.int .i64 a0_0,.slice A0_1 l0_1.length c0_1] 30 (0,0)) (by exact BK331.out)):gb334 ≠ gb331));have n8_:=Aside0.mk ((by rw [hg];exact Nat.ne_of_lt (blk_lt (g:=gb332) (o:=.cells #[.bool a1_0,.slice (some ad333) l1_1.length c1_1,.slice A1_2 l1_2.length c1_2] 46 (0,0)) (by (with_reducible repeat (first|refine blk_drewN ?_ _|refine blk_drew ?_|refine blk_alloc ?_ _));exact BK332.out)):gb332 ≠ gb334));have n9_:=Aside0.mk ((by rw [hg];exact Nat.ne_of_gt (blk_lt (g:=gb332) (o:=.cells #[.bool a1_0,.slice (some ad333) l1_1.length c1_1,.slice A1_2 l1_2.length c1_2] 46 (0,0)) (by (with_reducible repeat (first|refine blk_drewN ?_ _|refine blk_drew ?_|refine blk_alloc ?_ _));exact BK332.out)):gb334 ≠ gb332));clear BK331;clear BK332;clear HB;have BK331:=n0_;have BK332:=n1_;have HB:=n2_;have BK334:=n3_;have GW334:=n4_;have GE334:=n5_;have NB331_334:=n6_;have NB334_331:=n7_;have NB332_334:=n8_;have NB334_332:=n9_;clear n0_ n1_ n2_ n3_ n4_ n5_ n6_ n7_ n8_ n9_;clear hb hbox hg;have hnb25:=NB334_331.out;have hnc25:=NB331_334.out;have hnb26:=NB334_332.out;have hnc26:=NB332_334.out;have hcz27_0:w24.cell? ⟨gb334,0,none⟩=some (.int .i64 0):=(blk_cell BK334.out 0).trans rfl;have hcz27_1:w24.cell? ⟨gb334,1,none⟩=some (.int .i64 0):=(blk_cell BK334.out 1).trans rfl;have hcz27_2:w24.cell? ⟨gb334,2,none⟩=some (.bool false):=(blk_cell BK334.out 2).trans rfl;have hcz27_3:w24.cell? ⟨gb334,3,none⟩=some (.bool false):=(blk_cell BK334.out 3).trans rfl;have hcz27_4:w24.cell? ⟨gb334,4,none⟩=some (.int .i64 0):=(blk_cell BK334.out 4).trans rfl;have hfz27_0:=blk_frozen BK334.out 0;have hfz27_1:=blk_frozen BK334.out 1;have hfz27_2:=blk_frozen BK334.out 2;have hfz27_3:=blk_frozen BK334.out 3;have hfz27_4:=blk_frozen BK334.out 4;have hcz28_0:w24.cell? ⟨gb331,0,none⟩=some (.int .i64 a0_0):=(blk_cell BK331.out 0).trans rfl;have hcz28_1:w24.cell? ⟨gb331,1,none⟩=some (.slice A0_1 l0_1.length c0_1):=(blk_cell BK331.out 1).trans rfl;have hfz28_0:=blk_frozen BK331.out 0;have hfz28_1:=blk_frozen BK331.out 1;have hcz29_0:w24.cell? ⟨gb332,0,none⟩=some (.bool a1_0):=(blk_cell BK332.out 0).trans rfl;have hcz29_1:w24.cell? ⟨gb332,1,none⟩=some (.slice (some ad333) l1_1.length c1_1):=(blk_cell BK332.out 1).trans rfl;have hcz29_2:w24.cell? ⟨gb332,2,none⟩=some (.slice A1_2 l1_2.length c1_2):=(blk_cell BK332.out 2).trans rfl;have hfz29_0:=blk_frozen BK332.out 0;have hfz29_1:=blk_frozen BK332.out 1;have hfz29_2:=blk_frozen BK332.out 2)|((with_reducible refine gate_callee (f:=98) rfl ?_);refine goesL_ (some 17) rfl rfl Try.func98 (by kernel_rfl) rfl #[.agg #[.int .i64 a0_0,.slice A0_1 l0_1.length c0_1],.agg #[.bool a1_0,.slice (some ad333) l1_1.length c1_1,.slice A1_2 l1_2.length c1_2],.int .i64 a2] rfl (by (try simp only [List.map_toArray,List.map_cons,List.map_nil]);first|done|rfl|(simp only [List.length_drop,List.length_take];rfl)) ?_;(with_reducible refine (impl_dead.calls k a0_0 _ _ l0_1 a1_0 _ _ l1_1 _ _ l1_2 a2 false _ ?side1 ?side2 ?side3 ?side4 ?side5 ?side6 A6.out).mono ?_);(case side1=>exact Kd.C_below HR0_1.out (by repeat (first|(with_reducible first|exact HB.out|apply below_alloc|apply pw_below_drewN|apply below_drew1|refine below_set ?_ GE331.out|refine below_set ?_ GE332.out|refine below_set ?_ GE334.out)|exact HB.out)));(case side2=>exact HC0_1.out);(case side3=>exact Kd.C_below HR1_1.out (by repeat (first|(with_reducible first|exact HB.out|apply below_alloc|apply pw_below_drewN|apply below_drew1|refine below_set ?_ GE331.out|refine below_set ?_ GE332.out|refine below_set ?_ GE334.out)|exact HB.out)));(case side4=>exact HC1_1.out);(case side5=>exact Kd.C_below HR1_2.out (by repeat (first|(with_reducible first|exact HB.out|apply below_alloc|apply pw_below_drewN|apply below_drew1|refine below_set ?_ GE331.out|refine below_set ?_ GE332.out|refine below_set ?_ GE334.out)|exact HB.out)));(case side6=>exact HC1_2.out);rintro e w30 ⟨rfl,hb⟩;refine ⟨_,rfl,?_⟩;have n0_:=Aside0.mk (blk_below (g:=gb331) (o:=.cells #[.int .i64 a0_0,.slice A0_1 l0_1.length c0_1] 30 (0,0)) (by (with_reducible repeat (first|refine blk_drewN ?_ _|refine blk_drew ?_|refine blk_alloc ?_ _));refine blk_far ?_ NB331_334.out _;(with_reducible repeat (first|refine blk_drewN ?_ _|refine blk_drew ?_|refine blk_alloc ?_ _));refine blk_far ?_ NB331_334.out _;(with_reducible repeat (first|refine blk_drewN ?_ _|refine blk_drew ?_|refine blk_alloc ?_ _));refine blk_far ?_ NB331_334.out _;(with_reducible repeat (first|refine blk_drewN ?_ _|refine blk_drew ?_|refine blk_alloc ?_ _));refine blk_far ?_ NB331_334.out _;(with_reducible repeat (first|refine blk_drewN ?_ _|refine blk_drew ?_|refine blk_alloc ?_ _));refine blk_far ?_ NB331_334.out _;(with_reducible repeat (first|refine blk_drewN ?_ _|refine blk_drew ?_|refine blk_alloc ?_ _));exact BK331.out) hb);have n1_:=Aside0.mk (blk_below (g:=gb332) (o:=.cells #[.bool a1_0,.slice (some ad333) l1_1.length c1_1,.slice A1_2 l1_2.length c1_2] 46 (0,0)) (by (with_reducible repeat (first|refine blk_drewN ?_ _|refine blk_drew ?_|refine blk_alloc ?_ _));refine blk_far ?_ NB332_334.out _;(with_reducible repeat (first|refine blk_drewN ?_ _|refine blk_drew ?_|refine blk_alloc ?_ _));refine blk_far ?_ NB332_334.out _;(with_reducible repeat (first|refine blk_drewN ?_ _|refine blk_drew ?_|refine blk_alloc ?_ _));refine blk_far ?_ NB332_334.out _;(with_reducible repeat (first|refine blk_drewN ?_ _|refine blk_drew ?_|refine blk_alloc ?_ _));refine blk_far ?_ NB332_334.out _;(with_reducible repeat (first|refine blk_drewN ?_ _|refine blk_drew ?_|refine blk_alloc ?_ _));refine blk_far ?_ NB332_334.out _;(with_reducible repeat (first|refine blk_drewN ?_ _|refine blk_drew ?_|refine blk_alloc ?_ _));exact BK332.out) hb);have n2_:=Aside0.mk (blk_below (g:=gb334) (o:=.cells #[.int .i64 ((rd_T50 l1_1 a2).f0),.int .i64 ((rd_T50 l1_1 a2).f1),.bool ((rd_T50 l1_1 a2).f2),.bool ((rd_T50 l1_1 a2).f3),.int .i64 ((rd_T50 l1_1 a2).f4)] 50 (0,0)) (by (with_reducible repeat (first|refine blk_drewN ?_ _|refine blk_drew ?_|refine blk_alloc ?_ _));refine blk_put (cs:=#[.int .i64 ((rd_T50 l1_1 a2).f0),.int .i64 ((rd_T50 l1_1 a2).f1),.bool ((rd_T50 l1_1 a2).f2),.bool ((rd_T50 l1_1 a2).f3),.int .i64 0]) ?_ 4 _ rfl;(with_reducible repeat (first|refine blk_drewN ?_ _|refine blk_drew ?_|refine blk_alloc ?_ _));refine blk_put (cs:=#[.int .i64 ((rd_T50 l1_1 a2).f0),.int .i64 ((rd_T50 l1_1 a2).f1),.bool ((rd_T50 l1_1 a2).f2),.bool false,.int .i64 0]) ?_ 3 _ rfl;(with_reducible repeat (first|refine blk_drewN ?_ _|refine blk_drew ?_|refine blk_alloc ?_ _));refine blk_put (cs:=#[.int .i64 ((rd_T50 l1_1 a2).f0),.int .i64 ((rd_T50 l1_1 a2).f1),.bool false,.bool false,.int .i64 0]) ?_ 2 _ rfl;(with_reducible repeat (first|refine blk_drewN ?_ _|refine blk_drew ?_|refine blk_alloc ?_ _));refine blk_put (cs:=#[.int .i64 ((rd_T50 l1_1 a2).f0),.int .i64 0,.bool false,.bool false,.int .i64 0]) ?_ 1 _ rfl;(with_reducible repeat (first|refine blk_drewN ?_ _|refine blk_drew ?_|refine blk_alloc ?_ _));refine blk_put (cs:=#[.int .i64 0,.int .i64 0,.bool false,.bool false,.int .i64 0]) ?_ 0 _ rfl;(with_reducible repeat (first|refine blk_drewN ?_ _|refine blk_drew ?_|refine blk_alloc ?_ _));exact BK334.out) hb);have n3_:=Aside0.mk (below_step (by repeat (first|(with_reducible first|exact HB.out|apply below_alloc|apply pw_below_drewN|apply below_drew1|refine below_set ?_ GE331.out|refine below_set ?_ GE332.out|refine below_set ?_ GE334.out)|exact HB.out)) hb);clear BK331;clear BK332;clear BK334;clear HB;have BK331:=n0_;have BK332:=n1_;have BK334:=n2_;have HB:=n3_;clear n0_ n1_ n2_ n3_;(try clear hb);(try clear hb2);(try clear hk);(try clear hi)))
   (try simp only [Act.put,List.setIfInBounds_toArray,List.set_cons_zero,List.set_cons_succ])
   go_cut [18] (fun v18 wc=>∃ (kq:Nat) (x18_18:Bool),v18=.bool x18_18∧Aside0 (impl_told.j0 kq x18_18 ((rd_T50 l1_1 a2).f0) ((rd_T50 l1_1 a2).f1) ((rd_T50 l1_1 a2).f2) ((rd_T50 l1_1 a2).f3) ((rd_T50 l1_1 a2).f4)=some r)∧Aside0 (kq≤k)∧Aside0 (wc.heap[gb331]?=some (.cells #[.int .i64 a0_0,(.slice A0_1 l0_1.length c0_1)] 30 (0,0)))∧Aside0 (wc.heap[gb332]?=some (.cells #[.bool a1_0,(.slice (some ad333) l1_1.length c1_1),(.slice A1_2 l1_2.length c1_2)] 46 (0,0)))∧Aside0 (wc.heap[gb334]?=some (.cells #[.int .i64 ((rd_T50 l1_1 a2).f0),.int .i64 ((rd_T50 l1_1 a2).f1),.bool ((rd_T50 l1_1 a2).f2),.bool ((rd_T50 l1_1 a2).f3),.int .i64 ((rd_T50 l1_1 a2).f4)] 50 (0,0)))∧Aside0 (Below w.heap.size w wc))
   case first =>
    have H:=HC19.out
    clear HC19
    obtain ⟨bq31,hbq31⟩:∃ b_:Bool,b_=((rd_T50 l1_1 a2).f2):=⟨_,rfl⟩
    replace H:(if bq31=true then (impl_told.j0 k true ((rd_T50 l1_1 a2).f0) ((rd_T50 l1_1 a2).f1) bq31 ((rd_T50 l1_1 a2).f3) ((rd_T50 l1_1 a2).f4)) else (if ((rd_T50 l1_1 a2).f1)=0 then (impl_told.j0 k false ((rd_T50 l1_1 a2).f0) ((rd_T50 l1_1 a2).f1) bq31 ((rd_T50 l1_1 a2).f3) ((rd_T50 l1_1 a2).f4)) else (impl_told.j0 k (!((rd_T50 l1_1 a2).f3)) ((rd_T50 l1_1 a2).f0) ((rd_T50 l1_1 a2).f1) bq31 ((rd_T50 l1_1 a2).f3) ((rd_T50 l1_1 a2).f4))))=some r:=by rw [← hbq31] at H;exact H
    have Nbq31:=Aside0.mk hbq31
    clear hbq31
    (try rw [← Nbq31.out])
    by_cases c32:bq31=true
    ·subst c32
     have H1:(impl_told.j0 k true ((rd_T50 l1_1 a2).f0) ((rd_T50 l1_1 a2).f1) true ((rd_T50 l1_1 a2).f3) ((rd_T50 l1_1 a2).f4))=some r:=by rw [if_pos rfl] at H;exact H
     clear H
     have H:=H1
     clear H1
     have H':=Aside0.mk H
     clear H
     have hnb33:=NB334_331.out
     have hnc33:=NB331_334.out
     have hnb34:=NB334_332.out
     have hnc34:=NB332_334.out
     have hcz35_0:w30.cell? ⟨gb334,0,none⟩=some (.int .i64 ((rd_T50 l1_1 a2).f0)):=(blk_cell BK334.out 0).trans rfl
     have hcz35_1:w30.cell? ⟨gb334,1,none⟩=some (.int .i64 ((rd_T50 l1_1 a2).f1)):=(blk_cell BK334.out 1).trans rfl
     have hcz35_2:w30.cell? ⟨gb334,2,none⟩=some (.bool true):=(blk_cell BK334.out 2).trans (congrArg (fun b_=>some (Value.bool b_)) Nbq31.out.symm)
     have hcz35_3:w30.cell? ⟨gb334,3,none⟩=some (.bool ((rd_T50 l1_1 a2).f3)):=(blk_cell BK334.out 3).trans rfl
     have hcz35_4:w30.cell? ⟨gb334,4,none⟩=some (.int .i64 ((rd_T50 l1_1 a2).f4)):=(blk_cell BK334.out 4).trans rfl
     have hfz35_0:=blk_frozen BK334.out 0
     have hfz35_1:=blk_frozen BK334.out 1
     have hfz35_2:=blk_frozen BK334.out 2
     have hfz35_3:=blk_frozen BK334.out 3
     have hfz35_4:=blk_frozen BK334.out 4
     go_wp2
     go_meet
     case rel=>exact ⟨_,(true),(by first|rfl|(simp;done)|(simp [*];done)),(by first|exact H'|(rw [← Nbq31.out];exact H')),⟨by first|omega|exact Nat.le_refl _⟩,⟨by exact BK331.out⟩,⟨by exact BK332.out⟩,⟨by exact BK334.out⟩,⟨by exact HB.out⟩⟩
    replace c32:=Bool.eq_false_iff.mpr c32
    subst c32
    have H1:(if ((rd_T50 l1_1 a2).f1)=0 then (impl_told.j0 k false ((rd_T50 l1_1 a2).f0) ((rd_T50 l1_1 a2).f1) false ((rd_T50 l1_1 a2).f3) ((rd_T50 l1_1 a2).f4)) else (impl_told.j0 k (!((rd_T50 l1_1 a2).f3)) ((rd_T50 l1_1 a2).f0) ((rd_T50 l1_1 a2).f1) false ((rd_T50 l1_1 a2).f3) ((rd_T50 l1_1 a2).f4)))=some r:=by rw [if_neg (show ¬ (false=true) by decide)] at H;exact H
    clear H
    have H:=H1
    clear H1
    by_cases c36:((rd_T50 l1_1 a2).f1)=0
    ·rw [if_pos c36] at H
     have c36b0:(((rd_T50 l1_1 a2).f1)==0)=true:=beq_iff_eq.mpr c36
     have c36b1:(((rd_T50 l1_1 a2).f1) != 0)=false:=bne_eq_false_iff_eq.mpr c36
     clear c36
     have H':=Aside0.mk H
     clear H
     have hnb37:=NB334_331.out
     have hnc37:=NB331_334.out
     have hnb38:=NB334_332.out
     have hnc38:=NB332_334.out
     have hcz39_0:w30.cell? ⟨gb334,0,none⟩=some (.int .i64 ((rd_T50 l1_1 a2).f0)):=(blk_cell BK334.out 0).trans rfl
     have hcz39_1:w30.cell? ⟨gb334,1,none⟩=some (.int .i64 ((rd_T50 l1_1 a2).f1)):=(blk_cell BK334.out 1).trans rfl
     have hcz39_2:w30.cell? ⟨gb334,2,none⟩=some (.bool false):=(blk_cell BK334.out 2).trans (congrArg (fun b_=>some (Value.bool b_)) Nbq31.out.symm)
     have hcz39_3:w30.cell? ⟨gb334,3,none⟩=some (.bool ((rd_T50 l1_1 a2).f3)):=(blk_cell BK334.out 3).trans rfl
     have hcz39_4:w30.cell? ⟨gb334,4,none⟩=some (.int .i64 ((rd_T50 l1_1 a2).f4)):=(blk_cell BK334.out 4).trans rfl
     have hfz39_0:=blk_frozen BK334.out 0
     have hfz39_1:=blk_frozen BK334.out 1
     have hfz39_2:=blk_frozen BK334.out 2
     have hfz39_3:=blk_frozen BK334.out 3
     have hfz39_4:=blk_frozen BK334.out 4
     go_wp2
     go_meet
     case rel=>exact ⟨_,(false),(by first|rfl|(simp;done)|(simp [*];done)),(by first|exact H'|(rw [← Nbq31.out];exact H')),⟨by first|omega|exact Nat.le_refl _⟩,⟨by exact BK331.out⟩,⟨by exact BK332.out⟩,⟨by exact BK334.out⟩,⟨by exact HB.out⟩⟩
    rw [if_neg c36] at H
    have c36b0:(((rd_T50 l1_1 a2).f1)==0)=false:=beq_eq_false_iff_ne.mpr c36
    have c36b1:(((rd_T50 l1_1 a2).f1) != 0)=true:=bne_iff_ne.mpr c36
    have H':=Aside0.mk H
    clear H
    have hnb40:=NB334_331.out
    have hnc40:=NB331_334.out
    have hnb41:=NB334_332.out
    have hnc41:=NB332_334.out
    have hcz42_0:w30.cell? ⟨gb334,0,none⟩=some (.int .i64 ((rd_T50 l1_1 a2).f0)):=(blk_cell BK334.out 0).trans rfl
    have hcz42_1:w30.cell? ⟨gb334,1,none⟩=some (.int .i64 ((rd_T50 l1_1 a2).f1)):=(blk_cell BK334.out 1).trans rfl
    have hcz42_2:w30.cell? ⟨gb334,2,none⟩=some (.bool false):=(blk_cell BK334.out 2).trans (congrArg (fun b_=>some (Value.bool b_)) Nbq31.out.symm)
    have hcz42_3:w30.cell? ⟨gb334,3,none⟩=some (.bool ((rd_T50 l1_1 a2).f3)):=(blk_cell BK334.out 3).trans rfl
    have hcz42_4:w30.cell? ⟨gb334,4,none⟩=some (.int .i64 ((rd_T50 l1_1 a2).f4)):=(blk_cell BK334.out 4).trans rfl
    have hfz42_0:=blk_frozen BK334.out 0
    have hfz42_1:=blk_frozen BK334.out 1
    have hfz42_2:=blk_frozen BK334.out 2
    have hfz42_3:=blk_frozen BK334.out 3
    have hfz42_4:=blk_frozen BK334.out 4
    go_wp2
    go_meet
    case rel=>exact ⟨_,(!((rd_T50 l1_1 a2).f3)),(by first|rfl|(simp;done)|(simp [*];done)),(by first|exact H'|(rw [← Nbq31.out];exact H')),⟨by first|omega|exact Nat.le_refl _⟩,⟨by exact BK331.out⟩,⟨by exact BK332.out⟩,⟨by exact BK334.out⟩,⟨by exact HB.out⟩⟩
   case rest =>
    clear HC19
    try clear c1
    try clear c2
    try clear p2
    try clear c3
    try clear p3
    try clear q3
    try clear hx3
    try clear c4
    try clear c4b0
    try clear c5
    try clear c5b0
    try clear c7
    try clear c9
    try clear c10
    try clear c13
    try clear c14
    try clear c22
    try clear c25
    try clear c26
    try clear q31
    try clear c32
    try clear c33
    try clear p33
    try clear q33
    try clear hx33
    try clear c34
    try clear c36
    try clear c36b0
    try clear c36b1
    try clear c37
    try clear c38
    try clear c40
    try clear c41
    try clear hcz11_0
    try clear hcz11_1
    try clear hcz11_2
    try clear hcz15_0
    try clear hcz15_1
    try clear hcz15_2
    try clear hcz15_3
    try clear hcz15_4
    try clear hcz16_0
    try clear hcz16_1
    try clear hcz17_0
    try clear hcz17_1
    try clear hcz17_2
    try clear hcz23_0
    try clear hcz23_1
    try clear hcz23_2
    try clear hcz27_0
    try clear hcz27_1
    try clear hcz27_2
    try clear hcz27_3
    try clear hcz27_4
    try clear hcz28_0
    try clear hcz28_1
    try clear hcz29_0
    try clear hcz29_1
    try clear hcz29_2
    try clear hcz35_0
    try clear hcz35_1
    try clear hcz35_2
    try clear hcz35_3
    try clear hcz35_4
    try clear hcz39_0
    try clear hcz39_1
    try clear hcz39_2
    try clear hcz39_3
    try clear hcz39_4
    try clear hcz42_0
    try clear hcz42_1
    try clear hcz42_2
    try clear hcz42_3
    try clear hcz42_4
    try clear hfz11_0
    try clear hfz11_1
    try clear hfz11_2
    try clear hfz15_0
    try clear hfz15_1
    try clear hfz15_2
    try clear hfz15_3
    try clear hfz15_4
    try clear hfz16_0
    try clear hfz16_1
    try clear hfz17_0
    try clear hfz17_1
    try clear hfz17_2
    try clear hfz23_0
    try clear hfz23_1
    try clear hfz23_2
    try clear hfz27_0
    try clear hfz27_1
    try clear hfz27_2
    try clear hfz27_3
    try clear hfz27_4
    try clear hfz28_0
    try clear hfz28_1
    try clear hfz29_0
    try clear hfz29_1
    try clear hfz29_2
    try clear hfz35_0
    try clear hfz35_1
    try clear hfz35_2
    try clear hfz35_3
    try clear hfz35_4
    try clear hfz39_0
    try clear hfz39_1
    try clear hfz39_2
    try clear hfz39_3
    try clear hfz39_4
    try clear hfz42_0
    try clear hfz42_1
    try clear hfz42_2
    try clear hfz42_3
    try clear hfz42_4
    try clear hx333_0
    try clear hx333_1
    try clear hx333_2
    try clear hx333_3
    try clear hx333_4
    try clear p333
    try clear q333
    obtain ⟨kq,x18_18,rfl,HA,HJ18,BK331,BK332,BK334,HB⟩:=hcut
    cases kq with
    | zero=>exact absurd HA.out (by simp [impl_told.j0])
    | succ kj18 =>
     have H:=HA.out
     clear HA
     simp only [impl_told.j0] at H
     by_cases c43:x18_18=true
     ·subst c43
      have H1:(some 1)=some r:=by rw [if_pos rfl] at H;exact H
      clear H
      have H:=H1
      clear H1
      obtain rfl:=Option.some.inj H
      go_wp2
      go_ret
      exact ⟨by first|rfl|(simp [errW_none,errW_some] <;> rfl)|(simp [*,errW_none,errW_some] <;> rfl),by exact HB.out⟩
     replace c43:=Bool.eq_false_iff.mpr c43
     subst c43
     have H1:(if ((rd_T50 l1_1 a2).f3)=true then (some 2) else (some 0))=some r:=by rw [if_neg (show ¬ (false=true) by decide)] at H;exact H
     clear H
     have H:=H1
     clear H1
     by_cases c44:((rd_T50 l1_1 a2).f3)=true
     ·rw [if_pos c44] at H
      have c44b0:((rd_T50 l1_1 a2).f3)=true:=c44
      clear c44
      obtain rfl:=Option.some.inj H
      have hnb45:=NB334_331.out
      have hnc45:=NB331_334.out
      have hnb46:=NB334_332.out
      have hnc46:=NB332_334.out
      have hcz47_0:wc.cell? ⟨gb334,0,none⟩=some (.int .i64 ((rd_T50 l1_1 a2).f0)):=(blk_cell BK334.out 0).trans rfl
      have hcz47_1:wc.cell? ⟨gb334,1,none⟩=some (.int .i64 ((rd_T50 l1_1 a2).f1)):=(blk_cell BK334.out 1).trans rfl
      have hcz47_2:wc.cell? ⟨gb334,2,none⟩=some (.bool ((rd_T50 l1_1 a2).f2)):=(blk_cell BK334.out 2).trans rfl
      have hcz47_3:wc.cell? ⟨gb334,3,none⟩=some (.bool ((rd_T50 l1_1 a2).f3)):=(blk_cell BK334.out 3).trans rfl
      have hcz47_4:wc.cell? ⟨gb334,4,none⟩=some (.int .i64 ((rd_T50 l1_1 a2).f4)):=(blk_cell BK334.out 4).trans rfl
      have hfz47_0:=blk_frozen BK334.out 0
      have hfz47_1:=blk_frozen BK334.out 1
      have hfz47_2:=blk_frozen BK334.out 2
      have hfz47_3:=blk_frozen BK334.out 3
      have hfz47_4:=blk_frozen BK334.out 4
      go_wp2
      go_ret
      exact ⟨by first|rfl|(simp [errW_none,errW_some] <;> rfl)|(simp [*,errW_none,errW_some] <;> rfl),by exact HB.out⟩
     rw [if_neg c44] at H
     have c44b0:((rd_T50 l1_1 a2).f3)=false:=by simpa using c44
     clear c44
     obtain rfl:=Option.some.inj H
     have hnb48:=NB334_331.out
     have hnc48:=NB331_334.out
     have hnb49:=NB334_332.out
     have hnc49:=NB332_334.out
     have hcz50_0:wc.cell? ⟨gb334,0,none⟩=some (.int .i64 ((rd_T50 l1_1 a2).f0)):=(blk_cell BK334.out 0).trans rfl
     have hcz50_1:wc.cell? ⟨gb334,1,none⟩=some (.int .i64 ((rd_T50 l1_1 a2).f1)):=(blk_cell BK334.out 1).trans rfl
     have hcz50_2:wc.cell? ⟨gb334,2,none⟩=some (.bool ((rd_T50 l1_1 a2).f2)):=(blk_cell BK334.out 2).trans rfl
     have hcz50_3:wc.cell? ⟨gb334,3,none⟩=some (.bool ((rd_T50 l1_1 a2).f3)):=(blk_cell BK334.out 3).trans rfl
     have hcz50_4:wc.cell? ⟨gb334,4,none⟩=some (.int .i64 ((rd_T50 l1_1 a2).f4)):=(blk_cell BK334.out 4).trans rfl
     have hfz50_0:=blk_frozen BK334.out 0
     have hfz50_1:=blk_frozen BK334.out 1
     have hfz50_2:=blk_frozen BK334.out 2
     have hfz50_3:=blk_frozen BK334.out 3
     have hfz50_4:=blk_frozen BK334.out 4
     go_wp2
     go_ret
     exact ⟨by first|rfl|(simp [errW_none,errW_some] <;> rfl)|(simp [*,errW_none,errW_some] <;> rfl),by exact HB.out⟩
  rw [if_neg c5] at H
  exact absurd H (by simp)
 rw [if_neg c4] at H
 exact absurd H (by simp)
end Go.Proofs.Ytpdnabhpkdchjaa.P
namespace Go.Proofs.Ytpdnabhpkdchjaa.P
open Go.RowKit Go.Proofs.YtpdnabhpkdchjaaW.PrintWords Go.Proofs.YtpdnabhpkdchjaaW.PrintLast Go.Proofs.YtpdnabhpkdchjaaW.PrintMore
attribute [local go_sem] max2_int min2_int max_two min_two max_three min_three max_four min_four
set_option linter.unusedVariables false
set_option linter.unusedSimpArgs false
def spec_l2dead.l0:Nat→List Bool→List Int→Int→Int→Option (Bool)
 | 0,_,_,_,_=>none
 | k+1,x1,x11,x12,x13=>if x13<x12 then (if 0≤x13 then (if x13<(x11.length:Int) then (if 0≤(rd x11 x13) then (if (rd x11 x13)<(x1.length:Int) then (if rdOf false x1 (rd x11 x13)=true then (some true) else (spec_l2dead.l0 k x1 x11 x12 (wrap64 (x13+1)))) else (none)) else (none)) else (none)) else (none)) else (some false)
def spec_l2dead.f (k:Nat) (a0_0:Int) (l0_1:List (S88)) (l1:List Bool) (a2:Int):Option (Bool):=(spec_Around.f k a0_0 l0_1 a2).bind fun t235=>(spec_l2dead.l0 k l1 t235 (t235.length:Int) 0)
set_option maxHeartbeats 8000000 in
set_option maxRecDepth 100000 in
theorem spec_l2dead.calls (k:Nat) (a0_0:Int) (A0_1:Option Addr) (c0_1:Nat) (l0_1:List (S88)) (A1:Option Addr) (c1:Nat) (l1:List Bool) (a2:Int) (r:Bool) (w:World) (hr0_1:Kd.C k88 w A0_1 l0_1.length l0_1) (hc0_1:l0_1.length≤c0_1) (hr1:Kd.C Kd.bool w A1 l1.length l1) (hc1:l1.length≤c1) (h:spec_l2dead.f k a0_0 l0_1 l1 a2=some r) :
  Calls Try.prog 114 #[.agg #[.int .i64 a0_0,.slice A0_1 l0_1.length c0_1],.slice A1 l1.length c1,.int .i64 a2] w fun e w'=>e=.returned (.bool r)∧Below w.heap.size w w':=by
 have hu30:=Try.underlying30
 have HR0_1:=Aside0.mk hr0_1
 have HC0_1:=Aside0.mk hc0_1
 clear hr0_1 hc0_1
 have HR1:=Aside0.mk hr1
 have HC1:=Aside0.mk hc1
 clear hr1 hc1
 have HB:=Aside0.mk (Below.refl w.heap.size w)
 have H:((spec_Around.f k a0_0 l0_1 a2).bind fun t235=>(spec_l2dead.l0 k l1 t235 (t235.length:Int) 0))=some r:=h
 clear h
 replace H:=Option.bind_eq_some_iff.mp H
 obtain ⟨t235,A40,H⟩:=H
 replace H:(spec_l2dead.l0 k l1 t235 (t235.length:Int) 0)=some r:=H
 have A4:=Aside0.mk A40
 clear A40
 have H':=Aside0.mk H
 clear H
 go_enter Try.func114,Try.ntmps114
 go_wp2_with (first|((with_reducible refine gate_dst (N:=3) rfl ?_);refine box_event ?hg (N:=3) ?hd (cs:=#[.int .i64 a0_0,.slice A0_1 l0_1.length c0_1]) (t:=30) ?hr ?_;(case hd=>rfl);(case hg=>rfl);(case hr=>first|(go_simp;done)|(go_simp;rfl));intro gb234 hg w5 hbox hb;have n0_:=Aside0.mk (below_step (by repeat (first|(with_reducible first|exact HB.out|apply below_alloc|apply pw_below_drewN|apply below_drew1)|exact HB.out)) hb);have n1_:=Aside0.mk (hbox);have n2_:=Aside0.mk ((by rw [hg];exact (below_size (by repeat (first|(with_reducible first|exact HB.out|apply below_alloc|apply pw_below_drewN|apply below_drew1)|exact HB.out))):w.heap.size≤gb234));have n3_:=Aside0.mk ((by rw [hg];exact (below_size (by repeat (first|(with_reducible first|exact HB.out|apply below_alloc|apply pw_below_drewN|apply below_drew1)|exact HB.out))):w.heap.size≤gb234));clear HB;have HB:=n0_;have BK234:=n1_;have GW234:=n2_;have GE234:=n3_;clear n0_ n1_ n2_ n3_;clear hb hbox hg;have hcz6_0:w5.cell? ⟨gb234,0,none⟩=some (.int .i64 a0_0):=(blk_cell BK234.out 0).trans rfl;have hcz6_1:w5.cell? ⟨gb234,1,none⟩=some (.slice A0_1 l0_1.length c0_1):=(blk_cell BK234.out 1).trans rfl;have hfz6_0:=blk_frozen BK234.out 0;have hfz6_1:=blk_frozen BK234.out 1)|((with_reducible refine gate_callee (f:=37) rfl ?_);refine goesL_ (some 11) rfl rfl Try.func37 (by kernel_rfl) rfl #[.agg #[.int .i64 a0_0,.slice A0_1 l0_1.length c0_1],.int .i64 a2] rfl (by (try simp only [List.map_toArray,List.map_cons,List.map_nil]);first|done|rfl|(simp only [List.length_drop,List.length_take];rfl)) ?_;(with_reducible refine (spec_Around.calls k a0_0 _ _ l0_1 a2 t235 _ ?side1 ?side2 A4.out).mono ?_);(case side1=>repeat (first|exact (Kd.C_below HR0_1.out HB.out)|(with_reducible refine Kd.C_alloc ?_ _)|(with_reducible refine Kd.C_drewN ?_ _)|(with_reducible refine Kd.C_drew ?_)));(case side2=>exact HC0_1.out);rintro e w7 ⟨v236,rfl,ho0,hb⟩;refine ⟨_,rfl,?_⟩;have n0_:=Aside0.mk (Kd.R_lower ho0 (below_size (by repeat (first|(with_reducible first|exact HB.out|apply below_alloc|apply pw_below_drewN|apply below_drew1|refine below_set ?_ GE234.out)|exact HB.out))));have n1_:=Aside0.mk (blk_below (g:=gb234) (o:=.cells #[.int .i64 a0_0,.slice A0_1 l0_1.length c0_1] 30 (0,0)) (by (with_reducible repeat (first|refine blk_drewN ?_ _|refine blk_drew ?_|refine blk_alloc ?_ _));exact BK234.out) hb);have n2_:=Aside0.mk (below_step (by repeat (first|(with_reducible first|exact HB.out|apply below_alloc|apply pw_below_drewN|apply below_drew1|refine below_set ?_ GE234.out)|exact HB.out)) hb);clear BK234;clear HB;have HO237:=n0_;have BK234:=n1_;have HB:=n2_;clear n0_ n1_ n2_;(try clear hb);(try clear hb2);(try clear hk);(try clear hi);(try clear ho0);obtain ⟨Ao8,co8,eo8⟩:=Kd.R_slice HO237.out;subst eo8))
 go_loopg [13] k (fun kq v13 w'=>∃ (x13_1:Int),v13=.int .i64 x13_1∧Aside0 (spec_l2dead.l0 kq l1 t235 (t235.length:Int) x13_1=some r)∧Aside0 (kq≤k)∧Aside0 (Kd.R (Kd.int .i64) 3 w' w.heap.size (fun _=>True) (.slice Ao8 t235.length co8) t235)∧Aside0 (w'.heap[gb234]?=some (.cells #[.int .i64 a0_0,(.slice A0_1 l0_1.length c0_1)] 30 (0,0)))∧Aside0 (Below w.heap.size w w'))
 case atStart=>exact ⟨(0),(by first|rfl|(simp;done)|(simp [*];done)),H',⟨Nat.le_refl _⟩,⟨by (with_reducible repeat (first|apply Kd.R_alloc|apply Kd.R_drewN|apply Kd.R_drew));exact HO237.out⟩,⟨by (with_reducible repeat (first|refine blk_drewN ?_ _|refine blk_drew ?_|refine blk_alloc ?_ _));exact BK234.out⟩,⟨by repeat (first|(with_reducible first|exact HB.out|apply below_alloc|apply pw_below_drewN|apply below_drew1|refine below_set ?_ GE234.out)|exact HB.out)⟩⟩
 case round =>
  clear H'
  try clear c1
  try clear p2
  try clear c3
  try clear hcz6_0
  try clear hcz6_1
  try clear hfz6_0
  try clear hfz6_1
  obtain ⟨x13_1,rfl,HA,HK1,HO_11,BK234,HB⟩:=hrel
  cases gk with
  | zero=>exact absurd HA.out (by simp [spec_l2dead.l0])
  | succ k1 =>
   have H:=HA.out
   clear HA
   simp only [spec_l2dead.l0] at H
   by_cases c9:x13_1<(t235.length:Int)
   ·rw [if_pos c9] at H
    have c9b0:decide (x13_1<(t235.length:Int))=true:=decide_eq_true c9
    clear c9
    by_cases c10:0≤x13_1
    ·rw [if_pos c10] at H
     have c10b0:decide (0≤x13_1)=true:=decide_eq_true c10
     clear c10
     by_cases c11:x13_1<(t235.length:Int)
     ·rw [if_pos c11] at H
      have c11b0:decide (x13_1<(t235.length:Int))=true:=decide_eq_true c11
      clear c11
      by_cases c12:0≤(rd t235 x13_1)
      ·rw [if_pos c12] at H
       have c12b0:decide (0≤(rd t235 x13_1))=true:=decide_eq_true c12
       clear c12
       by_cases c13:(rd t235 x13_1)<(l1.length:Int)
       ·rw [if_pos c13] at H
        have c13b0:decide ((rd t235 x13_1)<(l1.length:Int))=true:=decide_eq_true c13
        clear c13
        obtain ⟨bq14,hbq14⟩:∃ b_:Bool,b_=(rdOf false l1 (rd t235 x13_1)):=⟨_,rfl⟩
        replace H:(if bq14=true then (some true) else (spec_l2dead.l0 k1 l1 t235 (t235.length:Int) (wrap64 (x13_1+1))))=some r:=by rw [← hbq14] at H;exact H
        have Nbq14:=Aside0.mk hbq14
        clear hbq14
        by_cases c15:bq14=true
        ·subst c15
         have H1:(some true)=some r:=by rw [if_pos rfl] at H;exact H
         clear H
         have H:=H1
         clear H1
         obtain rfl:=Option.some.inj H
         have p238:0≤(x13_1:Int):=of_decide_eq_true (by first|(with_reducible assumption)|assumption)
         have q238:x13_1<(t235.length:Int):=of_decide_eq_true (by first|(with_reducible assumption)|assumption)
         obtain ⟨ad238,e238,hx238_0⟩:=Kd.at_int (Kd.R_reads' HO_11.out).2.2 x13_1 p238 q238
         cases e238
         replace p238:=eq_true p238
         replace q238:=eq_true q238
         have p239:0≤((rd t235 x13_1):Int):=of_decide_eq_true (by first|(with_reducible assumption)|assumption)
         have q239:(rd t235 x13_1)<(l1.length:Int):=of_decide_eq_true (by first|(with_reducible assumption)|assumption)
         obtain ⟨ad239,e239,hx239_0⟩:=Kd.at_bool HR1.out (rd t235 x13_1) p239 q239
         (try rw [← Nbq14.out] at hx239_0)
         cases e239
         replace hx239_0:=(HB.out.cell (World.block_lt_of_cell? w _ hx239_0)).trans hx239_0
         replace p239:=eq_true p239
         replace q239:=eq_true q239
         go_wp2
         go_ret
         exact ⟨by first|rfl|(simp [errW_none,errW_some] <;> rfl)|(simp [*,errW_none,errW_some] <;> rfl),by repeat (first|(with_reducible first|exact HB.out|apply below_alloc|apply pw_below_drewN|apply below_drew1|refine below_set ?_ GE234.out)|exact HB.out)⟩
        replace c15:=Bool.eq_false_iff.mpr c15
        subst c15
        have H1:(spec_l2dead.l0 k1 l1 t235 (t235.length:Int) (wrap64 (x13_1+1)))=some r:=by rw [if_neg (show ¬ (false=true) by decide)] at H;exact H
        clear H
        have H:=H1
        clear H1
        have H':=Aside0.mk H
        clear H
        have p238:0≤(x13_1:Int):=of_decide_eq_true (by first|(with_reducible assumption)|assumption)
        have q238:x13_1<(t235.length:Int):=of_decide_eq_true (by first|(with_reducible assumption)|assumption)
        obtain ⟨ad238,e238,hx238_0⟩:=Kd.at_int (Kd.R_reads' HO_11.out).2.2 x13_1 p238 q238
        cases e238
        replace p238:=eq_true p238
        replace q238:=eq_true q238
        have p239:0≤((rd t235 x13_1):Int):=of_decide_eq_true (by first|(with_reducible assumption)|assumption)
        have q239:(rd t235 x13_1)<(l1.length:Int):=of_decide_eq_true (by first|(with_reducible assumption)|assumption)
        obtain ⟨ad239,e239,hx239_0⟩:=Kd.at_bool HR1.out (rd t235 x13_1) p239 q239
        (try rw [← Nbq14.out] at hx239_0)
        cases e239
        replace hx239_0:=(HB.out.cell (World.block_lt_of_cell? w _ hx239_0)).trans hx239_0
        replace p239:=eq_true p239
        replace q239:=eq_true q239
        go_wp2
        go_roundg k1
        case measure=>have:=HK1.out;omega
        case rel=>exact ⟨(wrap64 (x13_1+1)),(by first|rfl|(simp;done)|(simp [*];done)),H',⟨by have:=HK1.out;omega⟩,⟨by (with_reducible repeat (first|apply Kd.R_alloc|apply Kd.R_drewN|apply Kd.R_drew));exact HO_11.out⟩,⟨by (with_reducible repeat (first|refine blk_drewN ?_ _|refine blk_drew ?_|refine blk_alloc ?_ _));exact BK234.out⟩,⟨by repeat (first|(with_reducible first|exact HB.out|apply below_alloc|apply pw_below_drewN|apply below_drew1|refine below_set ?_ GE234.out)|exact HB.out)⟩⟩
       rw [if_neg c13] at H
       exact absurd H (by simp)
      rw [if_neg c12] at H
      exact absurd H (by simp)
     rw [if_neg c11] at H
     exact absurd H (by simp)
    rw [if_neg c10] at H
    exact absurd H (by simp)
   rw [if_neg c9] at H
   have c9b0:decide (x13_1<(t235.length:Int))=false:=decide_eq_false c9
   clear c9
   obtain rfl:=Option.some.inj H
   go_wp2
   go_ret
   exact ⟨by first|rfl|(simp [errW_none,errW_some] <;> rfl)|(simp [*,errW_none,errW_some] <;> rfl),by repeat (first|(with_reducible first|exact HB.out|apply below_alloc|apply pw_below_drewN|apply below_drew1|refine below_set ?_ GE234.out)|exact HB.out)⟩
end Go.Proofs.Ytpdnabhpkdchjaa.P
namespace Go.Proofs.Ytpdnabhpkdchjaa.P
open Go.RowKit Go.Proofs.YtpdnabhpkdchjaaW.PrintWords Go.Proofs.YtpdnabhpkdchjaaW.PrintLast Go.Proofs.YtpdnabhpkdchjaaW.PrintMore
attribute [local go_sem] max2_int min2_int max_two min_two max_three min_three max_four min_four
set_option linter.unusedVariables false
set_option linter.unusedSimpArgs false
def spec_l2told.j0:Nat→Bool→Int→Int→Bool→Bool→Int→Option (Int)
 | 0,_,_,_,_,_,_=>none
 | k+1,x24,x242000,x242001,x242002,x242003,x242004=>if x24=true then (some 1) else (if x242003=true then (some 2) else (some 0))
def spec_l2told.f (k:Nat) (a0_0:Int) (l0_1:List (S88)) (l1:List Bool) (a2:Int) (a3_0:Int) (a3_1:Int) (a3_2:Bool) (a3_3:Bool) (a3_4:Int):Option (Int):=(spec_l2dead.f k a0_0 l0_1 l1 a2).bind fun t242=>(if t242=true then (some 3) else (if a3_2=true then (spec_l2told.j0 k true a3_0 a3_1 a3_2 a3_3 a3_4) else (if a3_1=0 then (spec_l2told.j0 k false a3_0 a3_1 a3_2 a3_3 a3_4) else (spec_l2told.j0 k (!a3_3) a3_0 a3_1 a3_2 a3_3 a3_4))))
set_option maxHeartbeats 8000000 in
set_option maxRecDepth 100000 in
theorem spec_l2told.calls (k:Nat) (a0_0:Int) (A0_1:Option Addr) (c0_1:Nat) (l0_1:List (S88)) (A1:Option Addr) (c1:Nat) (l1:List Bool) (a2:Int) (a3_0:Int) (a3_1:Int) (a3_2:Bool) (a3_3:Bool) (a3_4:Int) (r:Int) (w:World) (hr0_1:Kd.C k88 w A0_1 l0_1.length l0_1) (hc0_1:l0_1.length≤c0_1) (hr1:Kd.C Kd.bool w A1 l1.length l1) (hc1:l1.length≤c1) (h:spec_l2told.f k a0_0 l0_1 l1 a2 a3_0 a3_1 a3_2 a3_3 a3_4=some r) :
  Calls Try.prog 113 #[.agg #[.int .i64 a0_0,.slice A0_1 l0_1.length c0_1],.slice A1 l1.length c1,.int .i64 a2,.agg #[.int .i64 a3_0,.int .i64 a3_1,.bool a3_2,.bool a3_3,.int .i64 a3_4]] w fun e w'=>e=.returned (.int .i64 r)∧Below w.heap.size w w':=by
 have hu30:=Try.underlying30
 have hu50:=Try.underlying50
 have HR0_1:=Aside0.mk hr0_1
 have HC0_1:=Aside0.mk hc0_1
 clear hr0_1 hc0_1
 have HR1:=Aside0.mk hr1
 have HC1:=Aside0.mk hc1
 clear hr1 hc1
 have HB:=Aside0.mk (Below.refl w.heap.size w)
 have H:((spec_l2dead.f k a0_0 l0_1 l1 a2).bind fun t242=>(if t242=true then (some 3) else (if a3_2=true then (spec_l2told.j0 k true a3_0 a3_1 a3_2 a3_3 a3_4) else (if a3_1=0 then (spec_l2told.j0 k false a3_0 a3_1 a3_2 a3_3 a3_4) else (spec_l2told.j0 k (!a3_3) a3_0 a3_1 a3_2 a3_3 a3_4)))))=some r:=h
 clear h
 replace H:=Option.bind_eq_some_iff.mp H
 obtain ⟨t242,A50,H⟩:=H
 replace H:(if t242=true then (some 3) else (if a3_2=true then (spec_l2told.j0 k true a3_0 a3_1 a3_2 a3_3 a3_4) else (if a3_1=0 then (spec_l2told.j0 k false a3_0 a3_1 a3_2 a3_3 a3_4) else (spec_l2told.j0 k (!a3_3) a3_0 a3_1 a3_2 a3_3 a3_4))))=some r:=H
 have A5:=Aside0.mk A50
 clear A50
 by_cases c6:t242=true
 ·subst c6
  have H1:(some 3)=some r:=by rw [if_pos rfl] at H;exact H
  clear H
  have H:=H1
  clear H1
  obtain rfl:=Option.some.inj H
  go_enter Try.func113,Try.ntmps113
  go_wp2_with (first|((with_reducible refine gate_dst (N:=4) rfl ?_);refine box_event ?hg (N:=4) ?hd (cs:=#[.int .i64 a0_0,.slice A0_1 l0_1.length c0_1]) (t:=30) ?hr ?_;(case hd=>rfl);(case hg=>rfl);(case hr=>first|(go_simp;done)|(go_simp;rfl));intro gb240 hg w7 hbox hb;have n0_:=Aside0.mk (below_step (by exact HB.out) hb);have n1_:=Aside0.mk (hbox);have n2_:=Aside0.mk ((by rw [hg];exact (below_size (by exact HB.out)):w.heap.size≤gb240));have n3_:=Aside0.mk ((by rw [hg];exact (below_size (by exact HB.out)):w.heap.size≤gb240));clear HB;have HB:=n0_;have BK240:=n1_;have GW240:=n2_;have GE240:=n3_;clear n0_ n1_ n2_ n3_;clear hb hbox hg)|((with_reducible refine gate_dst (N:=7) rfl ?_);refine box_event ?hg (N:=7) ?hd (cs:=#[.int .i64 a3_0,.int .i64 a3_1,.bool a3_2,.bool a3_3,.int .i64 a3_4]) (t:=50) ?hr ?_;(case hd=>rfl);(case hg=>rfl);(case hr=>first|(go_simp;done)|(go_simp;rfl));intro gb241 hg w8 hbox hb;have n0_:=Aside0.mk (blk_below (g:=gb240) (o:=.cells #[.int .i64 a0_0,.slice A0_1 l0_1.length c0_1] 30 (0,0)) (by exact BK240.out) hb);have n1_:=Aside0.mk (below_step (by exact HB.out) hb);have n2_:=Aside0.mk (hbox);have n3_:=Aside0.mk ((by rw [hg];exact (below_size (by exact HB.out)):w.heap.size≤gb241));have n4_:=Aside0.mk ((by rw [hg];exact (below_size (by exact HB.out)):w.heap.size≤gb241));have n5_:=Aside0.mk ((by rw [hg];exact Nat.ne_of_lt (blk_lt (g:=gb240) (o:=.cells #[.int .i64 a0_0,.slice A0_1 l0_1.length c0_1] 30 (0,0)) (by exact BK240.out)):gb240 ≠ gb241));have n6_:=Aside0.mk ((by rw [hg];exact Nat.ne_of_gt (blk_lt (g:=gb240) (o:=.cells #[.int .i64 a0_0,.slice A0_1 l0_1.length c0_1] 30 (0,0)) (by exact BK240.out)):gb241 ≠ gb240));clear BK240;clear HB;have BK240:=n0_;have HB:=n1_;have BK241:=n2_;have GW241:=n3_;have GE241:=n4_;have NB240_241:=n5_;have NB241_240:=n6_;clear n0_ n1_ n2_ n3_ n4_ n5_ n6_;clear hb hbox hg;have hnb9:=NB240_241.out;have hnc9:=NB241_240.out;have hcz10_0:w8.cell? ⟨gb240,0,none⟩=some (.int .i64 a0_0):=(blk_cell BK240.out 0).trans rfl;have hcz10_1:w8.cell? ⟨gb240,1,none⟩=some (.slice A0_1 l0_1.length c0_1):=(blk_cell BK240.out 1).trans rfl;have hfz10_0:=blk_frozen BK240.out 0;have hfz10_1:=blk_frozen BK240.out 1)|((with_reducible refine gate_callee (f:=114) rfl ?_);refine goesL_ (some 12) rfl rfl Try.func114 (by kernel_rfl) rfl #[.agg #[.int .i64 a0_0,.slice A0_1 l0_1.length c0_1],.slice A1 l1.length c1,.int .i64 a2] rfl (by (try simp only [List.map_toArray,List.map_cons,List.map_nil]);first|done|rfl|(simp only [List.length_drop,List.length_take];rfl)) ?_;(with_reducible refine (spec_l2dead.calls k a0_0 _ _ l0_1 _ _ l1 a2 true _ ?side1 ?side2 ?side3 ?side4 A5.out).mono ?_);(case side1=>repeat (first|exact (Kd.C_below HR0_1.out HB.out)|(with_reducible refine Kd.C_alloc ?_ _)|(with_reducible refine Kd.C_drewN ?_ _)|(with_reducible refine Kd.C_drew ?_)));(case side2=>exact HC0_1.out);(case side3=>repeat (first|exact (Kd.C_below HR1.out HB.out)|(with_reducible refine Kd.C_alloc ?_ _)|(with_reducible refine Kd.C_drewN ?_ _)|(with_reducible refine Kd.C_drew ?_)));(case side4=>exact HC1.out);rintro e w11 ⟨rfl,hb⟩;refine ⟨_,rfl,?_⟩;have n0_:=Aside0.mk (blk_below (g:=gb240) (o:=.cells #[.int .i64 a0_0,.slice A0_1 l0_1.length c0_1] 30 (0,0)) (by exact BK240.out) hb);have n1_:=Aside0.mk (blk_below (g:=gb241) (o:=.cells #[.int .i64 a3_0,.int .i64 a3_1,.bool a3_2,.bool a3_3,.int .i64 a3_4] 50 (0,0)) (by exact BK241.out) hb);have n2_:=Aside0.mk (below_step (by exact HB.out) hb);clear BK240;clear BK241;clear HB;have BK240:=n0_;have BK241:=n1_;have HB:=n2_;clear n0_ n1_ n2_;(try clear hb);(try clear hb2);(try clear hk);(try clear hi)))
  go_ret
  exact ⟨by first|rfl|(simp [errW_none,errW_some] <;> rfl)|(simp [*,errW_none,errW_some] <;> rfl),by exact HB.out⟩
 replace c6:=Bool.eq_false_iff.mpr c6
 subst c6
 have H1:(if a3_2=true then (spec_l2told.j0 k true a3_0 a3_1 a3_2 a3_3 a3_4) else (if a3_1=0 then (spec_l2told.j0 k false a3_0 a3_1 a3_2 a3_3 a3_4) else (spec_l2told.j0 k (!a3_3) a3_0 a3_1 a3_2 a3_3 a3_4)))=some r:=by rw [if_neg (show ¬ (false=true) by decide)] at H;exact H
 clear H
 have H:=H1
 clear H1
 have HC12:=Aside0.mk H
 clear H
 go_enter Try.func113,Try.ntmps113
 go_upto_region 3 with (first|((with_reducible refine gate_dst (N:=4) rfl ?_);refine box_event ?hg (N:=4) ?hd (cs:=#[.int .i64 a0_0,.slice A0_1 l0_1.length c0_1]) (t:=30) ?hr ?_;(case hd=>rfl);(case hg=>rfl);(case hr=>first|(go_simp;done)|(go_simp;rfl));intro gb240 hg w13 hbox hb;have n0_:=Aside0.mk (below_step (by exact HB.out) hb);have n1_:=Aside0.mk (hbox);have n2_:=Aside0.mk ((by rw [hg];exact (below_size (by exact HB.out)):w.heap.size≤gb240));have n3_:=Aside0.mk ((by rw [hg];exact (below_size (by exact HB.out)):w.heap.size≤gb240));clear HB;have HB:=n0_;have BK240:=n1_;have GW240:=n2_;have GE240:=n3_;clear n0_ n1_ n2_ n3_;clear hb hbox hg)|((with_reducible refine gate_dst (N:=7) rfl ?_);refine box_event ?hg (N:=7) ?hd (cs:=#[.int .i64 a3_0,.int .i64 a3_1,.bool a3_2,.bool a3_3,.int .i64 a3_4]) (t:=50) ?hr ?_;(case hd=>rfl);(case hg=>rfl);(case hr=>first|(go_simp;done)|(go_simp;rfl));intro gb241 hg w14 hbox hb;have n0_:=Aside0.mk (blk_below (g:=gb240) (o:=.cells #[.int .i64 a0_0,.slice A0_1 l0_1.length c0_1] 30 (0,0)) (by exact BK240.out) hb);have n1_:=Aside0.mk (below_step (by exact HB.out) hb);have n2_:=Aside0.mk (hbox);have n3_:=Aside0.mk ((by rw [hg];exact (below_size (by exact HB.out)):w.heap.size≤gb241));have n4_:=Aside0.mk ((by rw [hg];exact (below_size (by exact HB.out)):w.heap.size≤gb241));have n5_:=Aside0.mk ((by rw [hg];exact Nat.ne_of_lt (blk_lt (g:=gb240) (o:=.cells #[.int .i64 a0_0,.slice A0_1 l0_1.length c0_1] 30 (0,0)) (by exact BK240.out)):gb240 ≠ gb241));have n6_:=Aside0.mk ((by rw [hg];exact Nat.ne_of_gt (blk_lt (g:=gb240) (o:=.cells #[.int .i64 a0_0,.slice A0_1 l0_1.length c0_1] 30 (0,0)) (by exact BK240.out)):gb241 ≠ gb240));clear BK240;clear HB;have BK240:=n0_;have HB:=n1_;have BK241:=n2_;have GW241:=n3_;have GE241:=n4_;have NB240_241:=n5_;have NB241_240:=n6_;clear n0_ n1_ n2_ n3_ n4_ n5_ n6_;clear hb hbox hg;have hnb15:=NB240_241.out;have hnc15:=NB241_240.out;have hcz16_0:w14.cell? ⟨gb240,0,none⟩=some (.int .i64 a0_0):=(blk_cell BK240.out 0).trans rfl;have hcz16_1:w14.cell? ⟨gb240,1,none⟩=some (.slice A0_1 l0_1.length c0_1):=(blk_cell BK240.out 1).trans rfl;have hfz16_0:=blk_frozen BK240.out 0;have hfz16_1:=blk_frozen BK240.out 1)|((with_reducible refine gate_callee (f:=114) rfl ?_);refine goesL_ (some 12) rfl rfl Try.func114 (by kernel_rfl) rfl #[.agg #[.int .i64 a0_0,.slice A0_1 l0_1.length c0_1],.slice A1 l1.length c1,.int .i64 a2] rfl (by (try simp only [List.map_toArray,List.map_cons,List.map_nil]);first|done|rfl|(simp only [List.length_drop,List.length_take];rfl)) ?_;(with_reducible refine (spec_l2dead.calls k a0_0 _ _ l0_1 _ _ l1 a2 false _ ?side1 ?side2 ?side3 ?side4 A5.out).mono ?_);(case side1=>repeat (first|exact (Kd.C_below HR0_1.out HB.out)|(with_reducible refine Kd.C_alloc ?_ _)|(with_reducible refine Kd.C_drewN ?_ _)|(with_reducible refine Kd.C_drew ?_)));(case side2=>exact HC0_1.out);(case side3=>repeat (first|exact (Kd.C_below HR1.out HB.out)|(with_reducible refine Kd.C_alloc ?_ _)|(with_reducible refine Kd.C_drewN ?_ _)|(with_reducible refine Kd.C_drew ?_)));(case side4=>exact HC1.out);rintro e w17 ⟨rfl,hb⟩;refine ⟨_,rfl,?_⟩;have n0_:=Aside0.mk (blk_below (g:=gb240) (o:=.cells #[.int .i64 a0_0,.slice A0_1 l0_1.length c0_1] 30 (0,0)) (by exact BK240.out) hb);have n1_:=Aside0.mk (blk_below (g:=gb241) (o:=.cells #[.int .i64 a3_0,.int .i64 a3_1,.bool a3_2,.bool a3_3,.int .i64 a3_4] 50 (0,0)) (by exact BK241.out) hb);have n2_:=Aside0.mk (below_step (by exact HB.out) hb);clear BK240;clear BK241;clear HB;have BK240:=n0_;have BK241:=n1_;have HB:=n2_;clear n0_ n1_ n2_;(try clear hb);(try clear hb2);(try clear hk);(try clear hi)))
 (try simp only [Act.put,List.setIfInBounds_toArray,List.set_cons_zero,List.set_cons_succ])
 go_cut [24] (fun v24 wc=>∃ (kq:Nat) (x24_11:Bool),v24=.bool x24_11∧Aside0 (spec_l2told.j0 kq x24_11 a3_0 a3_1 a3_2 a3_3 a3_4=some r)∧Aside0 (kq≤k)∧Aside0 (wc.heap[gb240]?=some (.cells #[.int .i64 a0_0,(.slice A0_1 l0_1.length c0_1)] 30 (0,0)))∧Aside0 (wc.heap[gb241]?=some (.cells #[.int .i64 a3_0,.int .i64 a3_1,.bool a3_2,.bool a3_3,.int .i64 a3_4] 50 (0,0)))∧Aside0 (Below w.heap.size w wc))
 case first =>
  have H:=HC12.out
  clear HC12
  by_cases c18:a3_2=true
  ·subst c18
   have H1:(spec_l2told.j0 k true a3_0 a3_1 true a3_3 a3_4)=some r:=by rw [if_pos rfl] at H;exact H
   clear H
   have H:=H1
   clear H1
   have H':=Aside0.mk H
   clear H
   have hnb19:=NB241_240.out
   have hnc19:=NB240_241.out
   have hcz20_0:w17.cell? ⟨gb241,0,none⟩=some (.int .i64 a3_0):=(blk_cell BK241.out 0).trans rfl
   have hcz20_1:w17.cell? ⟨gb241,1,none⟩=some (.int .i64 a3_1):=(blk_cell BK241.out 1).trans rfl
   have hcz20_2:w17.cell? ⟨gb241,2,none⟩=some (.bool true):=(blk_cell BK241.out 2).trans rfl
   have hcz20_3:w17.cell? ⟨gb241,3,none⟩=some (.bool a3_3):=(blk_cell BK241.out 3).trans rfl
   have hcz20_4:w17.cell? ⟨gb241,4,none⟩=some (.int .i64 a3_4):=(blk_cell BK241.out 4).trans rfl
   have hfz20_0:=blk_frozen BK241.out 0
   have hfz20_1:=blk_frozen BK241.out 1
   have hfz20_2:=blk_frozen BK241.out 2
   have hfz20_3:=blk_frozen BK241.out 3
   have hfz20_4:=blk_frozen BK241.out 4
   go_wp2
   go_meet
   case rel=>exact ⟨_,(true),(by first|rfl|(simp;done)|(simp [*];done)),H',⟨by first|omega|exact Nat.le_refl _⟩,⟨by exact BK240.out⟩,⟨by exact BK241.out⟩,⟨by exact HB.out⟩⟩
  replace c18:=Bool.eq_false_iff.mpr c18
  subst c18
  have H1:(if a3_1=0 then (spec_l2told.j0 k false a3_0 a3_1 false a3_3 a3_4) else (spec_l2told.j0 k (!a3_3) a3_0 a3_1 false a3_3 a3_4))=some r:=by rw [if_neg (show ¬ (false=true) by decide)] at H;exact H
  clear H
  have H:=H1
  clear H1
  by_cases c21:a3_1=0
  ·rw [if_pos c21] at H
   have c21b0:(a3_1==0)=true:=beq_iff_eq.mpr c21
   have c21b1:(a3_1 != 0)=false:=bne_eq_false_iff_eq.mpr c21
   clear c21
   (first|rw [c21b0]|(simp only [i64_w,i32_w];rw [c21b0])|skip)
   have H':=Aside0.mk H
   clear H
   have hnb22:=NB241_240.out
   have hnc22:=NB240_241.out
   have hcz23_0:w17.cell? ⟨gb241,0,none⟩=some (.int .i64 a3_0):=(blk_cell BK241.out 0).trans rfl
   have hcz23_1:w17.cell? ⟨gb241,1,none⟩=some (.int .i64 a3_1):=(blk_cell BK241.out 1).trans rfl
   have hcz23_2:w17.cell? ⟨gb241,2,none⟩=some (.bool false):=(blk_cell BK241.out 2).trans rfl
   have hcz23_3:w17.cell? ⟨gb241,3,none⟩=some (.bool a3_3):=(blk_cell BK241.out 3).trans rfl
   have hcz23_4:w17.cell? ⟨gb241,4,none⟩=some (.int .i64 a3_4):=(blk_cell BK241.out 4).trans rfl
   have hfz23_0:=blk_frozen BK241.out 0
   have hfz23_1:=blk_frozen BK241.out 1
   have hfz23_2:=blk_frozen BK241.out 2
   have hfz23_3:=blk_frozen BK241.out 3
   have hfz23_4:=blk_frozen BK241.out 4
   go_wp2
   go_meet
   case rel=>exact ⟨_,(false),(by first|rfl|(simp;done)|(simp [*];done)),H',⟨by first|omega|exact Nat.le_refl _⟩,⟨by exact BK240.out⟩,⟨by exact BK241.out⟩,⟨by exact HB.out⟩⟩
  rw [if_neg c21] at H
  have c21b0:(a3_1==0)=false:=beq_eq_false_iff_ne.mpr c21
  have c21b1:(a3_1 != 0)=true:=bne_iff_ne.mpr c21
  (first|rw [c21b0]|(simp only [i64_w,i32_w];rw [c21b0])|skip)
  have H':=Aside0.mk H
  clear H
  have hnb24:=NB241_240.out
  have hnc24:=NB240_241.out
  have hcz25_0:w17.cell? ⟨gb241,0,none⟩=some (.int .i64 a3_0):=(blk_cell BK241.out 0).trans rfl
  have hcz25_1:w17.cell? ⟨gb241,1,none⟩=some (.int .i64 a3_1):=(blk_cell BK241.out 1).trans rfl
  have hcz25_2:w17.cell? ⟨gb241,2,none⟩=some (.bool false):=(blk_cell BK241.out 2).trans rfl
  have hcz25_3:w17.cell? ⟨gb241,3,none⟩=some (.bool a3_3):=(blk_cell BK241.out 3).trans rfl
  have hcz25_4:w17.cell? ⟨gb241,4,none⟩=some (.int .i64 a3_4):=(blk_cell BK241.out 4).trans rfl
  have hfz25_0:=blk_frozen BK241.out 0
  have hfz25_1:=blk_frozen BK241.out 1
  have hfz25_2:=blk_frozen BK241.out 2
  have hfz25_3:=blk_frozen BK241.out 3
  have hfz25_4:=blk_frozen BK241.out 4
  go_wp2
  go_meet
  case rel=>exact ⟨_,(!a3_3),(by first|rfl|(simp;done)|(simp [*];done)),H',⟨by first|omega|exact Nat.le_refl _⟩,⟨by exact BK240.out⟩,⟨by exact BK241.out⟩,⟨by exact HB.out⟩⟩
 case rest =>
  clear HC12
  try clear c1
  try clear c2
  try clear p2
  try clear c6
  try clear c9
  try clear c11
  try clear c15
  try clear c18
  try clear c19
  try clear c21
  try clear c21b0
  try clear c21b1
  try clear c22
  try clear c24
  try clear hcz10_0
  try clear hcz10_1
  try clear hcz16_0
  try clear hcz16_1
  try clear hcz20_0
  try clear hcz20_1
  try clear hcz20_2
  try clear hcz20_3
  try clear hcz20_4
  try clear hcz23_0
  try clear hcz23_1
  try clear hcz23_2
  try clear hcz23_3
  try clear hcz23_4
  try clear hcz25_0
  try clear hcz25_1
  try clear hcz25_2
  try clear hcz25_3
  try clear hcz25_4
  try clear hfz10_0
  try clear hfz10_1
  try clear hfz16_0
  try clear hfz16_1
  try clear hfz20_0
  try clear hfz20_1
  try clear hfz20_2
  try clear hfz20_3
  try clear hfz20_4
  try clear hfz23_0
  try clear hfz23_1
  try clear hfz23_2
  try clear hfz23_3
  try clear hfz23_4
  try clear hfz25_0
  try clear hfz25_1
  try clear hfz25_2
  try clear hfz25_3
  try clear hfz25_4
  obtain ⟨kq,x24_11,rfl,HA,HJ11,BK240,BK241,HB⟩:=hcut
  cases kq with
  | zero=>exact absurd HA.out (by simp [spec_l2told.j0])
  | succ kj11 =>
   have H:=HA.out
   clear HA
   simp only [spec_l2told.j0] at H
   by_cases c26:x24_11=true
   ·subst c26
    have H1:(some 1)=some r:=by rw [if_pos rfl] at H;exact H
    clear H
    have H:=H1
    clear H1
    obtain rfl:=Option.some.inj H
    go_wp2
    go_ret
    exact ⟨by first|rfl|(simp [errW_none,errW_some] <;> rfl)|(simp [*,errW_none,errW_some] <;> rfl),by exact HB.out⟩
   replace c26:=Bool.eq_false_iff.mpr c26
   subst c26
   have H1:(if a3_3=true then (some 2) else (some 0))=some r:=by rw [if_neg (show ¬ (false=true) by decide)] at H;exact H
   clear H
   have H:=H1
   clear H1
   by_cases c27:a3_3=true
   ·subst c27
    have H1:(some 2)=some r:=by rw [if_pos rfl] at H;exact H
    clear H
    have H:=H1
    clear H1
    obtain rfl:=Option.some.inj H
    have hnb28:=NB241_240.out
    have hnc28:=NB240_241.out
    have hcz29_0:wc.cell? ⟨gb241,0,none⟩=some (.int .i64 a3_0):=(blk_cell BK241.out 0).trans rfl
    have hcz29_1:wc.cell? ⟨gb241,1,none⟩=some (.int .i64 a3_1):=(blk_cell BK241.out 1).trans rfl
    have hcz29_2:wc.cell? ⟨gb241,2,none⟩=some (.bool a3_2):=(blk_cell BK241.out 2).trans rfl
    have hcz29_3:wc.cell? ⟨gb241,3,none⟩=some (.bool true):=(blk_cell BK241.out 3).trans rfl
    have hcz29_4:wc.cell? ⟨gb241,4,none⟩=some (.int .i64 a3_4):=(blk_cell BK241.out 4).trans rfl
    have hfz29_0:=blk_frozen BK241.out 0
    have hfz29_1:=blk_frozen BK241.out 1
    have hfz29_2:=blk_frozen BK241.out 2
    have hfz29_3:=blk_frozen BK241.out 3
    have hfz29_4:=blk_frozen BK241.out 4
    go_wp2
    go_ret
    exact ⟨by first|rfl|(simp [errW_none,errW_some] <;> rfl)|(simp [*,errW_none,errW_some] <;> rfl),by exact HB.out⟩
   replace c27:=Bool.eq_false_iff.mpr c27
   subst c27
   have H1:(some 0)=some r:=by rw [if_neg (show ¬ (false=true) by decide)] at H;exact H
   clear H
   have H:=H1
   clear H1
   obtain rfl:=Option.some.inj H
   have hnb30:=NB241_240.out
   have hnc30:=NB240_241.out
   have hcz31_0:wc.cell? ⟨gb241,0,none⟩=some (.int .i64 a3_0):=(blk_cell BK241.out 0).trans rfl
   have hcz31_1:wc.cell? ⟨gb241,1,none⟩=some (.int .i64 a3_1):=(blk_cell BK241.out 1).trans rfl
   have hcz31_2:wc.cell? ⟨gb241,2,none⟩=some (.bool a3_2):=(blk_cell BK241.out 2).trans rfl
   have hcz31_3:wc.cell? ⟨gb241,3,none⟩=some (.bool false):=(blk_cell BK241.out 3).trans rfl
   have hcz31_4:wc.cell? ⟨gb241,4,none⟩=some (.int .i64 a3_4):=(blk_cell BK241.out 4).trans rfl
   have hfz31_0:=blk_frozen BK241.out 0
   have hfz31_1:=blk_frozen BK241.out 1
   have hfz31_2:=blk_frozen BK241.out 2
   have hfz31_3:=blk_frozen BK241.out 3
   have hfz31_4:=blk_frozen BK241.out 4
   go_wp2
   go_ret
   exact ⟨by first|rfl|(simp [errW_none,errW_some] <;> rfl)|(simp [*,errW_none,errW_some] <;> rfl),by exact HB.out⟩
end Go.Proofs.Ytpdnabhpkdchjaa.P
namespace Go.Proofs.Ytpdnabhpkdchjaa.P
open Go.RowKit Go.Proofs.YtpdnabhpkdchjaaW.PrintWords Go.Proofs.YtpdnabhpkdchjaaW.PrintLast
set_option linter.unusedVariables false
set_option linter.unusedSimpArgs false
def deadFrom (l : List S88) (dead : List Bool) (s : Int) (d : Nat) (i : Nat) : Bool :=
  match d with
  | 0 => false
  | d + 1 => (rdOf false dead (i : Int) && hits s (rd_T88 l (i : Int))) || deadFrom l dead s d (i + 1)
def deadAt (l : List S88) (dead : List Bool) (s : Int) : Bool := deadFrom l dead s l.length 0
def toldC (l : List S88) (dead : List Bool) (s : Int) (x : S50) : Int :=
  if deadAt l dead s = true then 3 else if x.f2 = true ∨ (x.f1 ≠ 0 ∧ x.f3 = false) then 1 else if x.f3 = true then 2 else 0
theorem implDead_l0 (l : List S88) (dead : List Bool) (b : Bool) (secs : List S50) (s : Int) (hl : l.length ≤ 1048576) (hd : dead.length = l.length) (d : Nat) : ∀ (i : Nat), i + d = l.length →
    Ev (fun k => impl_dead.l0 k s l (l.length : Int) i b secs dead) (deadFrom l dead s d i) := by
  induction d with
  | zero => intro i hi; refine Ev.step1 fun k => ?_; simp only [impl_dead.l0]; rw [if_neg (by omega)]; rfl
  | succ d ih =>
    intro i hi
    have h1 := ih (i + 1) (by omega)
    simp only [deadFrom]
    cases hb : rdOf false dead (i : Int) with
    | false =>
      simp only [Bool.false_and, Bool.false_or]
      refine Ev.step (fun k => ?_) h1
      simp only [impl_dead.l0]
      rw [if_pos (by omega), if_pos (by omega), if_pos (by omega), if_pos (by omega), hb, wrap_succ (by omega)]
      rfl
    | true =>
      by_cases h2 : (rd_T88 l (i : Int)).f0 = s
      · simp only [hits, h2, decide_true, Bool.true_or, Bool.and_true]
        refine Ev.step1 fun k => ?_
        simp only [impl_dead.l0]
        rw [if_pos (by omega), if_pos (by omega), if_pos (by omega), if_pos (by omega), hb, if_pos rfl, if_pos h2]
      · by_cases h3 : (rd_T88 l (i : Int)).f1 = s
        · simp only [hits, h3, decide_true, Bool.or_true, Bool.true_or, Bool.and_true]
          refine Ev.step1 fun k => ?_
          simp only [impl_dead.l0]
          rw [if_pos (by omega), if_pos (by omega), if_pos (by omega), if_pos (by omega), hb, if_pos rfl, if_neg h2, if_pos h3]
        · simp only [hits, h2, h3, decide_false, Bool.or_self, Bool.and_false, Bool.false_or]
          refine Ev.step (fun k => ?_) h1
          simp only [impl_dead.l0]
          rw [if_pos (by omega), if_pos (by omega), if_pos (by omega), if_pos (by omega), hb, if_pos rfl, if_neg h2, if_neg h3, wrap_succ (by omega)]
theorem implDead_ev (n : Int) (l : List S88) (dead : List Bool) (b : Bool) (secs : List S50) (s : Int) (hl : l.length ≤ 1048576) (hd : dead.length = l.length) :
    Ev (fun k => impl_dead.f k n l b secs dead s) (deadAt l dead s) := by
  unfold impl_dead.f
  exact implDead_l0 l dead b secs s hl hd l.length 0 (by omega)
def anyDead (dead : List Bool) : List Int → Bool
  | [] => false
  | c :: r => rdOf false dead c || anyDead dead r
theorem anyDead_append (dead : List Bool) (a b : List Int) : anyDead dead (a ++ b) = (anyDead dead a || anyDead dead b) := by
  induction a with
  | nil => rfl
  | cons c r ih => simp [anyDead, ih, Bool.or_assoc]
theorem anyDead_hits (l : List S88) (dead : List Bool) (s : Int) (d : Nat) : ∀ i, i + d = l.length → (anyDead dead (hitsTo l s i) || deadFrom l dead s d i) = anyDead dead (hitsTo l s l.length) := by
  induction d with
  | zero => intro i hi; rw [show i = l.length by omega]; simp [deadFrom]
  | succ d ih =>
    intro i hi
    rw [← ih (i + 1) (by omega), hitsTo_succ]
    simp only [deadFrom]
    by_cases h : hits s (rd_T88 l (i : Int)) = true
    · rw [if_pos h, h, anyDead_append]
      simp [anyDead, Bool.or_assoc]
    · rw [if_neg h]
      have h' : hits s (rd_T88 l (i : Int)) = false := by simpa using h
      rw [h']; simp
theorem deadAt_any (l : List S88) (dead : List Bool) (s : Int) : deadAt l dead s = anyDead dead (hitsTo l s l.length) := by
  have := anyDead_hits l dead s l.length 0 (by omega)
  rw [← this]
  simp [deadAt, hitsTo, anyDead]
theorem hitsTo_mem (l : List S88) (s : Int) (i : Nat) : ∀ c ∈ hitsTo l s i, 0 ≤ c ∧ c < i := by
  intro c hc
  simp only [hitsTo, List.mem_map, List.mem_filter, List.mem_range] at hc
  obtain ⟨j, ⟨hj, _⟩, rfl⟩ := hc
  constructor
  · exact Int.natCast_nonneg _
  · exact Int.ofNat_lt.2 hj
theorem specDead_l0 (dead : List Bool) (r : List Int) (hr : ∀ c ∈ r, 0 ≤ c ∧ c < dead.length) (hl : r.length ≤ 1048576) (d : Nat) : ∀ (i : Nat), i + d = r.length →
    Ev (fun k => spec_l2dead.l0 k dead r (r.length : Int) i) (anyDead dead (r.drop i)) := by
  induction d with
  | zero => intro i hi; refine Ev.step1 fun k => ?_; simp only [spec_l2dead.l0]; rw [if_neg (by omega), List.drop_eq_nil_of_le (by omega)]; rfl
  | succ d ih =>
    intro i hi
    have hlt : i < r.length := by omega
    have h1 := ih (i + 1) (by omega)
    rw [List.drop_eq_getElem_cons hlt]
    have hrd : rd r (i : Int) = r[i] := by simp [rd, hlt]
    obtain ⟨p1, p2⟩ := hr r[i] (List.getElem_mem hlt)
    simp only [anyDead]
    cases hb : rdOf false dead r[i] with
    | false =>
      simp only [Bool.false_or]
      refine Ev.step (fun k => ?_) h1
      simp only [spec_l2dead.l0, hrd]
      rw [if_pos (by omega), if_pos (by omega), if_pos (by omega), if_pos p1, if_pos p2, hb, wrap_succ (by omega)]
      rfl
    | true =>
      simp only [Bool.true_or]
      refine Ev.step1 fun k => ?_
      simp only [spec_l2dead.l0, hrd]
      rw [if_pos (by omega), if_pos (by omega), if_pos (by omega), if_pos p1, if_pos p2, hb, if_pos rfl]
theorem specDead_ev (n : Int) (l : List S88) (dead : List Bool) (s : Int) (h0 : layoutOk n l = 0) (hs : 0 ≤ s ∧ s < n) (hd : dead.length = l.length) :
    Ev (fun k => spec_l2dead.f k n l dead s) (deadAt l dead s) := by
  unfold spec_l2dead.f
  have ha : around n l s = hitsTo l s l.length := by rw [around, if_pos ⟨h0, hs.1, hs.2⟩]
  refine Ev.bind (specAround_ev n l s) ?_
  rw [ha, deadAt_any]
  have hc := (lay_n h0).2.2
  have hlen := hitsTo_length l s l.length
  have := specDead_l0 dead (hitsTo l s l.length) (fun c hc => by have := hitsTo_mem l s l.length c hc; omega) (by omega) _ 0 (Nat.zero_add _)
  simpa using this
theorem told_tail (x : S50) (b : Bool) (hb : b = true ↔ (x.f2 = true ∨ (x.f1 ≠ 0 ∧ x.f3 = false))) :
    (if b = true then some (1 : Int) else if x.f3 = true then some 2 else some 0) = some (if x.f2 = true ∨ (x.f1 ≠ 0 ∧ x.f3 = false) then 1 else if x.f3 = true then 2 else 0) := by
  by_cases h : b = true
  · rw [if_pos h, if_pos (hb.1 h)]
  · rw [if_neg h, if_neg (fun k => h (hb.2 k))]
    split <;> rfl
theorem implTold_ev (n : Int) (l : List S88) (dead : List Bool) (b : Bool) (secs : List S50) (s : Int) (hl : l.length ≤ 1048576) (hd : dead.length = l.length) (h0 : 0 ≤ s) (h1 : s < secs.length) :
    Ev (fun k => impl_told.f k n l b secs dead s) (toldC l dead s (rd_T50 secs s)) := by
  unfold impl_told.f
  refine Ev.ite_pos h0 (Ev.ite_pos h1 (Ev.bind (implDead_ev n l dead b secs s hl hd) ?_))
  unfold toldC
  by_cases hdd : deadAt l dead s = true
  · rw [if_pos hdd]; exact Ev.ite_pos hdd (Ev.now _)
  · rw [if_neg hdd]
    refine Ev.ite_neg hdd ?_
    by_cases h2 : (rd_T50 secs s).f2 = true
    · refine Ev.ite_pos h2 (Ev.step1 fun k => ?_)
      simp only [impl_told.j0]
      exact told_tail _ true (by simp [h2])
    · refine Ev.ite_neg h2 ?_
      by_cases h3 : (rd_T50 secs s).f1 = 0
      · refine Ev.ite_pos h3 (Ev.step1 fun k => ?_)
        simp only [impl_told.j0]
        exact told_tail _ false (by simp [h2, h3])
      · refine Ev.ite_neg h3 (Ev.step1 fun k => ?_)
        simp only [impl_told.j0]
        exact told_tail _ _ (by simp [h2, h3])
theorem specTold_ev (n : Int) (l : List S88) (dead : List Bool) (s : Int) (x : S50) (h0 : layoutOk n l = 0) (hs : 0 ≤ s ∧ s < n) (hd : dead.length = l.length) :
    Ev (fun k => spec_l2told.f k n l dead s x.f0 x.f1 x.f2 x.f3 x.f4) (toldC l dead s x) := by
  unfold spec_l2told.f
  refine Ev.bind (specDead_ev n l dead s h0 hs hd) ?_
  unfold toldC
  by_cases hdd : deadAt l dead s = true
  · rw [if_pos hdd]; exact Ev.ite_pos hdd (Ev.now _)
  · rw [if_neg hdd]
    refine Ev.ite_neg hdd ?_
    by_cases h2 : x.f2 = true
    · refine Ev.ite_pos h2 (Ev.step1 fun k => ?_)
      simp only [spec_l2told.j0]
      exact told_tail x true (by simp [h2])
    · refine Ev.ite_neg h2 ?_
      by_cases h3 : x.f1 = 0
      · refine Ev.ite_pos h3 (Ev.step1 fun k => ?_)
        simp only [spec_l2told.j0]
        exact told_tail x false (by simp [h2, h3])
      · refine Ev.ite_neg h3 (Ev.step1 fun k => ?_)
        simp only [spec_l2told.j0]
        exact told_tail x _ (by simp [h2, h3])
end Go.Proofs.Ytpdnabhpkdchjaa.P
namespace Go.Proofs.Ytpdnabhpkdchjaa.P
open Go.RowKit Go.Proofs.YtpdnabhpkdchjaaW.PrintWords Go.Proofs.YtpdnabhpkdchjaaW.PrintLast
set_option linter.unusedVariables false
set_option linter.unusedSimpArgs false
def secRange (x : S50) : Bool := decide (-1000000 ≤ x.f1) && decide (x.f1 ≤ 1000000) && decide (-1 ≤ x.f4) && decide (x.f4 ≤ 1)
def secRest (dd : Bool) (x : S50) : Bool := !((decide (x.f1 < 0) || dd) && !x.f2) && !(x.f3 && decide (x.f1 = 0) && decide (x.f4 = -1) && !x.f2)
def secOk (l : List S88) (dead : List Bool) (s : Int) (x : S50) : Bool := secRange x && decide (x.f0 = toldC l dead s x) && secRest (deadAt l dead s) x
def secsFrom (l : List S88) (dead : List Bool) (secs : List S50) (d : Nat) (i : Nat) : Bool :=
  match d with
  | 0 => true
  | d + 1 => secOk l dead i (rd_T50 secs (i : Int)) && secsFrom l dead secs d (i + 1)
def stateOk (n : Int) (l : List S88) (ok : Bool) (secs : List S50) (dead : List Bool) : Bool :=
  decide (layoutOk n l = 0) && ok && decide ((secs.length : Int) = n) && decide (dead.length = l.length) && secsFrom l dead secs secs.length 0
end Go.Proofs.Ytpdnabhpkdchjaa.P
namespace Go.Proofs.Ytpdnabhpkdchjaa.P
open Go.RowKit Go.Proofs.YtpdnabhpkdchjaaW.PrintWords Go.Proofs.YtpdnabhpkdchjaaW.PrintLast Go.Proofs.YtpdnabhpkdchjaaW.PrintMore
set_option linter.unusedVariables false
def addS (ss : List S50) (s b : Int) : List S50 := if s < 0 then ss else ss.set s.toNat (countS (rd_T50 ss s) b)
def loseAt (ss : List S50) (s : Int) : List S50 := if s < 0 then ss else ss.set s.toNat (loseS (rd_T50 ss s))
def tellS (l : List S88) (dd : List Bool) (i : Nat) (x : S50) : S50 := ⟨toldC l dd (i : Int) x, x.f1, x.f2, x.f3, x.f4⟩
def retoldTo (l : List S88) (dd : List Bool) (ss : List S50) (k : Nat) : List S50 := ss.mapIdx fun i x => if i < k then tellS l dd i x else x
def retold (l : List S88) (dd : List Bool) (ss : List S50) : List S50 := retoldTo l dd ss ss.length
def midSecs (l : List S88) (ss : List S50) (op of dir : Int) : List S50 :=
  let c := rd_T88 l of
  let f := if dir = -1 then c.f1 else c.f0
  let t := if dir = -1 then c.f0 else c.f1
  if op = 1 then addS (addS ss f (-1)) t 1 else if op = 2 then addS ss t 1 else if op = 3 then loseAt (loseAt ss c.f0) c.f1 else if op = 5 then ss.set of.toNat ⟨0, 0, false, true, 0⟩ else ss
def midDead (dd : List Bool) (op of : Int) : List Bool := if op = 3 then dd.set of.toNat true else if op = 4 then dd.set of.toNat false else dd
def doCode (l : List S88) (ss : List S50) (dd : List Bool) (op of : Int) : Int :=
  if op = 1 ∨ op = 2 then (if rdOf false dd of = true then 2 else 0) else if op = 5 then (if deadAt l dd of = true then 3 else if (rd_T50 ss of).f4 = 1 then 4 else 0) else 0
def doSecs (l : List S88) (ss : List S50) (dd : List Bool) (op of dir : Int) : List S50 := if doCode l ss dd op of = 0 then retold l (midDead dd op of) (midSecs l ss op of dir) else ss
def doDead (l : List S88) (ss : List S50) (dd : List Bool) (op of : Int) : List Bool := if doCode l ss dd op of = 0 then midDead dd op of else dd
theorem addS_length (ss : List S50) (s b : Int) : (addS ss s b).length = ss.length := by unfold addS; split <;> simp
theorem loseAt_length (ss : List S50) (s : Int) : (loseAt ss s).length = ss.length := by unfold loseAt; split <;> simp
theorem retoldTo_length (l : List S88) (dd : List Bool) (ss : List S50) (k : Nat) : (retoldTo l dd ss k).length = ss.length := by simp [retoldTo]
theorem retold_length (l : List S88) (dd : List Bool) (ss : List S50) : (retold l dd ss).length = ss.length := retoldTo_length _ _ _ _
theorem midSecs_length (l : List S88) (ss : List S50) (op of dir : Int) : (midSecs l ss op of dir).length = ss.length := by
  unfold midSecs
  simp only []
  split
  · rw [addS_length, addS_length]
  · split
    · rw [addS_length]
    · split
      · rw [loseAt_length, loseAt_length]
      · split <;> simp
theorem midDead_length (dd : List Bool) (op of : Int) : (midDead dd op of).length = dd.length := by unfold midDead; split <;> (try split) <;> simp
theorem doSecs_length (l : List S88) (ss : List S50) (dd : List Bool) (op of dir : Int) : (doSecs l ss dd op of dir).length = ss.length := by
  unfold doSecs; split
  · rw [retold_length, midSecs_length]
  · rfl
theorem doDead_length (l : List S88) (ss : List S50) (dd : List Bool) (op of : Int) : (doDead l ss dd op of).length = dd.length := by
  unfold doDead; split
  · exact midDead_length _ _ _
  · rfl
theorem retoldTo_zero (l : List S88) (dd : List Bool) (ss : List S50) : retoldTo l dd ss 0 = ss := by
  apply List.ext_getElem <;> simp [retoldTo]
theorem retoldTo_at (l : List S88) (dd : List Bool) (ss : List S50) (k : Nat) (hk : k < ss.length) : rd_T50 (retoldTo l dd ss k) (k : Int) = rd_T50 ss (k : Int) := by
  simp [rd_T50, retoldTo, hk]
theorem retoldTo_succ (l : List S88) (dd : List Bool) (ss : List S50) (k : Nat) (hk : k < ss.length) :
    (retoldTo l dd ss k).set k (tellS l dd k (rd_T50 ss (k : Int))) = retoldTo l dd ss (k + 1) := by
  apply List.ext_getElem
  · simp [retoldTo]
  · intro i h1 h2
    have hi : i < ss.length := by simpa [retoldTo] using h2
    rw [List.getElem_set]
    by_cases e : k = i
    · subst e
      simp [retoldTo, rd_T50, hk]
    · rw [if_neg e]
      simp only [retoldTo, List.getElem_mapIdx]
      by_cases h3 : i < k
      · rw [if_pos h3, if_pos (by omega)]
      · rw [if_neg h3, if_neg (by omega)]
end Go.Proofs.Ytpdnabhpkdchjaa.P
namespace Go.Proofs.Ytpdnabhpkdchjaa.P
open Go.RowKit Go.Proofs.YtpdnabhpkdchjaaW.PrintWords Go.Proofs.YtpdnabhpkdchjaaW.PrintLast Go.Proofs.YtpdnabhpkdchjaaW.PrintMore
attribute [local go_sem] max2_int min2_int max_two min_two max_three min_three max_four min_four
set_option linter.unusedVariables false
set_option linter.unusedSimpArgs false
mutual
def spec_l2copy.l0:Nat→List (S50)→Int→Int→Bool→List (S50)→List Bool→Bool→List (S50)→Option (Bool × (List (S50)) × List Bool)
 | 0,_,_,_,_,_,_,_,_=>none
 | k+1,x12,x13,x14,x254000,x254001,x254002,x256000,x256001=>if x14<x13 then (if 0≤x14 then (if x14<(x12.length:Int) then (if x256001.length<4398046511104 then (spec_l2copy.l0 k x12 x13 (wrap64 (x14+1)) x254000 x254001 x254002 x256000 (x256001 ++ [(⟨(rd_T50 x12 x14).f0,(rd_T50 x12 x14).f1,(rd_T50 x12 x14).f2,(rd_T50 x12 x14).f3,(rd_T50 x12 x14).f4⟩:S50)])) else (none)) else (none)) else (none)) else (spec_l2copy.l1 k x254002 (x254002.length:Int) 0 x256000 x256001 ([]:List Bool))
def spec_l2copy.l1:Nat→List Bool→Int→Int→Bool→List (S50)→List Bool→Option (Bool × (List (S50)) × List Bool)
 | 0,_,_,_,_,_,_=>none
 | k+1,x26,x27,x28,x256000,x256001,x256002=>if x28<x27 then (if 0≤x28 then (if x28<(x26.length:Int) then (if x256002.length<140737488355328 then (spec_l2copy.l1 k x26 x27 (wrap64 (x28+1)) x256000 x256001 (x256002 ++ [rdOf false x26 x28])) else (none)) else (none)) else (none)) else (some (x256000,x256001,x256002))
end
def spec_l2copy.f (k:Nat) (a0_0:Bool) (l0_1:List (S50)) (l0_2:List Bool):Option (Bool × (List (S50)) × List Bool):=spec_l2copy.l0 k l0_1 (l0_1.length:Int) 0 a0_0 l0_1 l0_2 a0_0 ([]:List (S50))
set_option maxHeartbeats 8000000 in
set_option maxRecDepth 100000 in
theorem spec_l2copy.calls (k:Nat) (a0_0:Bool) (A0_1:Option Addr) (c0_1:Nat) (l0_1:List (S50)) (A0_2:Option Addr) (c0_2:Nat) (l0_2:List Bool) (r1:Bool) (r2:List (S50)) (r3:List Bool) (w:World) (hr0_1:Kd.C k50 w A0_1 l0_1.length l0_1) (hc0_1:l0_1.length≤c0_1) (hr0_2:Kd.C Kd.bool w A0_2 l0_2.length l0_2) (hc0_2:l0_2.length≤c0_2) (h:spec_l2copy.f k a0_0 l0_1 l0_2=some (r1,r2,r3)) :
  Calls Try.prog 93 #[.agg #[.bool a0_0,.slice A0_1 l0_1.length c0_1,.slice A0_2 l0_2.length c0_2]] w fun e w'=>∃ v1_ v2_:Value,e=.returned (.agg #[.bool r1,v1_,v2_])∧Kd.R k50 50 w' w.heap.size (fun _=>True) v1_ r2∧Kd.R Kd.bool 4 w' w.heap.size (fun _=>True) v2_ r3∧Below w.heap.size w w':=by
 have hu46:=Try.underlying46
 have hu50:=Try.underlying50
 have HR0_1:=Aside0.mk hr0_1
 have HC0_1:=Aside0.mk hc0_1
 clear hr0_1 hc0_1
 have HR0_2:=Aside0.mk hr0_2
 have HC0_2:=Aside0.mk hc0_2
 clear hr0_2 hc0_2
 have HB:=Aside0.mk (Below.refl w.heap.size w)
 have H:(spec_l2copy.l0 k l0_1 (l0_1.length:Int) 0 a0_0 l0_1 l0_2 a0_0 ([]:List (S50)))=some (r1,r2,r3):=h
 clear h
 have H':=Aside0.mk H
 clear H
 go_enter Try.func93,Try.ntmps93
 go_wp2_with (first|((with_reducible refine gate_dst (N:=1) rfl ?_);refine box_event ?hg (N:=1) ?hd (cs:=#[.bool a0_0,.slice A0_1 l0_1.length c0_1,.slice A0_2 l0_2.length c0_2]) (t:=46) ?hr ?_;(case hd=>rfl);(case hg=>rfl);(case hr=>first|(go_simp;done)|(go_simp;rfl));intro gb253 hg w2 hbox hb;have n0_:=Aside0.mk (below_step (by repeat (first|(with_reducible first|exact HB.out|apply below_alloc|apply pw_below_drewN|apply below_drew1)|exact HB.out)) hb);have n1_:=Aside0.mk (hbox);have n2_:=Aside0.mk ((by rw [hg];exact (below_size (by repeat (first|(with_reducible first|exact HB.out|apply below_alloc|apply pw_below_drewN|apply below_drew1)|exact HB.out))):w.heap.size≤gb253));have n3_:=Aside0.mk ((by rw [hg];exact (below_size (by repeat (first|(with_reducible first|exact HB.out|apply below_alloc|apply pw_below_drewN|apply below_drew1)|exact HB.out))):w.heap.size≤gb253));clear HB;have HB:=n0_;have BK253:=n1_;have GW253:=n2_;have GE253:=n3_;clear n0_ n1_ n2_ n3_;clear hb hbox hg)|((with_reducible refine gate_dst (N:=2) rfl ?_);refine box_event ?hg (N:=2) ?hd (cs:=#[.bool false,.slice none 0 0,.slice none 0 0]) (t:=46) ?hr ?_;(case hd=>rfl);(case hg=>rfl);(case hr=>first|(go_simp;done)|(go_simp;rfl));intro gb254 hg w3 hbox hb;have n0_:=Aside0.mk (blk_below (g:=gb253) (o:=.cells #[.bool a0_0,.slice A0_1 l0_1.length c0_1,.slice A0_2 l0_2.length c0_2] 46 (0,0)) (by (with_reducible repeat (first|refine blk_drewN ?_ _|refine blk_drew ?_|refine blk_alloc ?_ _));exact BK253.out) hb);have n1_:=Aside0.mk (below_step (by repeat (first|(with_reducible first|exact HB.out|apply below_alloc|apply pw_below_drewN|apply below_drew1|refine below_set ?_ GE253.out)|exact HB.out)) hb);have n2_:=Aside0.mk (hbox);have n3_:=Aside0.mk ((by rw [hg];exact (below_size (by repeat (first|(with_reducible first|exact HB.out|apply below_alloc|apply pw_below_drewN|apply below_drew1|refine below_set ?_ GE253.out)|exact HB.out))):w.heap.size≤gb254));have n4_:=Aside0.mk ((by rw [hg];exact (below_size (by repeat (first|(with_reducible first|exact HB.out|apply below_alloc|apply pw_below_drewN|apply below_drew1|refine below_set ?_ GE253.out)|exact HB.out))):w.heap.size≤gb254));have n5_:=Aside0.mk ((by rw [hg];exact Nat.ne_of_lt (blk_lt (g:=gb253) (o:=.cells #[.bool a0_0,.slice A0_1 l0_1.length c0_1,.slice A0_2 l0_2.length c0_2] 46 (0,0)) (by (with_reducible repeat (first|refine blk_drewN ?_ _|refine blk_drew ?_|refine blk_alloc ?_ _));exact BK253.out)):gb253 ≠ gb254));have n6_:=Aside0.mk ((by rw [hg];exact Nat.ne_of_gt (blk_lt (g:=gb253) (o:=.cells #[.bool a0_0,.slice A0_1 l0_1.length c0_1,.slice A0_2 l0_2.length c0_2] 46 (0,0)) (by (with_reducible repeat (first|refine blk_drewN ?_ _|refine blk_drew ?_|refine blk_alloc ?_ _));exact BK253.out)):gb254 ≠ gb253));clear BK253;clear HB;have BK253:=n0_;have HB:=n1_;have BK254:=n2_;have GW254:=n3_;have GE254:=n4_;have NB253_254:=n5_;have NB254_253:=n6_;clear n0_ n1_ n2_ n3_ n4_ n5_ n6_;clear hb hbox hg;have hnb4:=NB253_254.out;have hnc4:=NB254_253.out;have hcz5_0:w3.cell? ⟨gb253,0,none⟩=some (.bool a0_0):=(blk_cell BK253.out 0).trans rfl;have hcz5_1:w3.cell? ⟨gb253,1,none⟩=some (.slice A0_1 l0_1.length c0_1):=(blk_cell BK253.out 1).trans rfl;have hcz5_2:w3.cell? ⟨gb253,2,none⟩=some (.slice A0_2 l0_2.length c0_2):=(blk_cell BK253.out 2).trans rfl;have hfz5_0:=blk_frozen BK253.out 0;have hfz5_1:=blk_frozen BK253.out 1;have hfz5_2:=blk_frozen BK253.out 2)|((with_reducible refine gate_dst (N:=3) rfl ?_);refine box_event ?hg (N:=3) ?hd (cs:=#[.bool false,.slice none 0 0,.slice none 0 0]) (t:=46) ?hr ?_;(case hd=>rfl);(case hg=>rfl);(case hr=>first|(go_simp;done)|(go_simp;rfl));intro gb255 hg w6 hbox hb;have n0_:=Aside0.mk (blk_below (g:=gb253) (o:=.cells #[.bool a0_0,.slice A0_1 l0_1.length c0_1,.slice A0_2 l0_2.length c0_2] 46 (0,0)) (by (with_reducible repeat (first|refine blk_drewN ?_ _|refine blk_drew ?_|refine blk_alloc ?_ _));exact BK253.out) hb);have n1_:=Aside0.mk (blk_below (g:=gb254) (o:=.cells #[.bool false,.slice none 0 0,.slice none 0 0] 46 (0,0)) (by (with_reducible repeat (first|refine blk_drewN ?_ _|refine blk_drew ?_|refine blk_alloc ?_ _));exact BK254.out) hb);have n2_:=Aside0.mk (below_step (by repeat (first|(with_reducible first|exact HB.out|apply below_alloc|apply pw_below_drewN|apply below_drew1|refine below_set ?_ GE253.out|refine below_set ?_ GE254.out)|exact HB.out)) hb);have n3_:=Aside0.mk (hbox);have n4_:=Aside0.mk ((by rw [hg];exact (below_size (by repeat (first|(with_reducible first|exact HB.out|apply below_alloc|apply pw_below_drewN|apply below_drew1|refine below_set ?_ GE253.out|refine below_set ?_ GE254.out)|exact HB.out))):w.heap.size≤gb255));have n5_:=Aside0.mk ((by rw [hg];exact (below_size (by repeat (first|(with_reducible first|exact HB.out|apply below_alloc|apply pw_below_drewN|apply below_drew1|refine below_set ?_ GE253.out|refine below_set ?_ GE254.out)|exact HB.out))):w.heap.size≤gb255));have n6_:=Aside0.mk ((by rw [hg];exact Nat.ne_of_lt (blk_lt (g:=gb253) (o:=.cells #[.bool a0_0,.slice A0_1 l0_1.length c0_1,.slice A0_2 l0_2.length c0_2] 46 (0,0)) (by (with_reducible repeat (first|refine blk_drewN ?_ _|refine blk_drew ?_|refine blk_alloc ?_ _));exact BK253.out)):gb253 ≠ gb255));have n7_:=Aside0.mk ((by rw [hg];exact Nat.ne_of_gt (blk_lt (g:=gb253) (o:=.cells #[.bool a0_0,.slice A0_1 l0_1.length c0_1,.slice A0_2 l0_2.length c0_2] 46 (0,0)) (by (with_reducible repeat (first|refine blk_drewN ?_ _|refine blk_drew ?_|refine blk_alloc ?_ _));exact BK253.out)):gb255 ≠ gb253));have n8_:=Aside0.mk ((by rw [hg];exact Nat.ne_of_lt (blk_lt (g:=gb254) (o:=.cells #[.bool false,.slice none 0 0,.slice none 0 0] 46 (0,0)) (by (with_reducible repeat (first|refine blk_drewN ?_ _|refine blk_drew ?_|refine blk_alloc ?_ _));exact BK254.out)):gb254 ≠ gb255));have n9_:=Aside0.mk ((by rw [hg];exact Nat.ne_of_gt (blk_lt (g:=gb254) (o:=.cells #[.bool false,.slice none 0 0,.slice none 0 0] 46 (0,0)) (by (with_reducible repeat (first|refine blk_drewN ?_ _|refine blk_drew ?_|refine blk_alloc ?_ _));exact BK254.out)):gb255 ≠ gb254));clear BK253;clear BK254;clear HB;have BK253:=n0_;have BK254:=n1_;have HB:=n2_;have BK255:=n3_;have GW255:=n4_;have GE255:=n5_;have NB253_255:=n6_;have NB255_253:=n7_;have NB254_255:=n8_;have NB255_254:=n9_;clear n0_ n1_ n2_ n3_ n4_ n5_ n6_ n7_ n8_ n9_;clear hb hbox hg;have hnb7:=NB255_253.out;have hnc7:=NB253_255.out;have hnb8:=NB255_254.out;have hnc8:=NB254_255.out;have hcz9_0:w6.cell? ⟨gb255,0,none⟩=some (.bool false):=(blk_cell BK255.out 0).trans rfl;have hcz9_1:w6.cell? ⟨gb255,1,none⟩=some (.slice none 0 0):=(blk_cell BK255.out 1).trans rfl;have hcz9_2:w6.cell? ⟨gb255,2,none⟩=some (.slice none 0 0):=(blk_cell BK255.out 2).trans rfl;have hfz9_0:=blk_frozen BK255.out 0;have hfz9_1:=blk_frozen BK255.out 1;have hfz9_2:=blk_frozen BK255.out 2;have hcz10_0:w6.cell? ⟨gb253,0,none⟩=some (.bool a0_0):=(blk_cell BK253.out 0).trans rfl;have hcz10_1:w6.cell? ⟨gb253,1,none⟩=some (.slice A0_1 l0_1.length c0_1):=(blk_cell BK253.out 1).trans rfl;have hcz10_2:w6.cell? ⟨gb253,2,none⟩=some (.slice A0_2 l0_2.length c0_2):=(blk_cell BK253.out 2).trans rfl;have hfz10_0:=blk_frozen BK253.out 0;have hfz10_1:=blk_frozen BK253.out 1;have hfz10_2:=blk_frozen BK253.out 2))
 go_loopg [14] k (fun kq v14 w'=>∃ (x14_1:Int) (x256001_1:List (S50)) (u256001:Value),v14=.int .i64 x14_1∧Aside0 (spec_l2copy.l0 kq l0_1 (l0_1.length:Int) x14_1 a0_0 l0_1 l0_2 a0_0 x256001_1=some (r1,r2,r3))∧Aside0 (kq≤k)∧Aside0 (Kd.R k50 50 w' w.heap.size (fun _=>True) u256001 x256001_1)∧Aside0 (w'.heap[gb253]?=some (.cells #[.bool a0_0,(.slice A0_1 l0_1.length c0_1),(.slice A0_2 l0_2.length c0_2)] 46 (0,0)))∧Aside0 (w'.heap[gb254]?=some (.cells #[.bool false,(.slice none 0 0),(.slice none 0 0)] 46 (0,0)))∧Aside0 (w'.heap[gb255]?=some (.cells #[.bool a0_0,u256001,(.slice none 0 0)] 46 (0,0)))∧Aside0 (Below w.heap.size w w'))
 case atStart=>exact ⟨(0),(([]:List (S50))),(.slice none 0 0),(by first|rfl|(simp;done)|(simp [*];done)),H',⟨Nat.le_refl _⟩,⟨by first|exact Kd.R_nil _ _ _ _ _|exact Kd.N_nil _ _ _ _ _|exact Kd.V_nil _ _ _ _ _|exact Kd.Q_nil _ _ _ _ _|exact Kd.S_nil _ _ _ _ _⟩,⟨by (with_reducible repeat (first|refine blk_drewN ?_ _|refine blk_drew ?_|refine blk_alloc ?_ _));refine blk_far ?_ NB253_255.out _;(with_reducible repeat (first|refine blk_drewN ?_ _|refine blk_drew ?_|refine blk_alloc ?_ _));refine blk_far ?_ NB253_255.out _;(with_reducible repeat (first|refine blk_drewN ?_ _|refine blk_drew ?_|refine blk_alloc ?_ _));refine blk_far ?_ NB253_255.out _;(with_reducible repeat (first|refine blk_drewN ?_ _|refine blk_drew ?_|refine blk_alloc ?_ _));exact BK253.out⟩,⟨by (with_reducible repeat (first|refine blk_drewN ?_ _|refine blk_drew ?_|refine blk_alloc ?_ _));refine blk_far ?_ NB254_255.out _;(with_reducible repeat (first|refine blk_drewN ?_ _|refine blk_drew ?_|refine blk_alloc ?_ _));refine blk_far ?_ NB254_255.out _;(with_reducible repeat (first|refine blk_drewN ?_ _|refine blk_drew ?_|refine blk_alloc ?_ _));refine blk_far ?_ NB254_255.out _;(with_reducible repeat (first|refine blk_drewN ?_ _|refine blk_drew ?_|refine blk_alloc ?_ _));exact BK254.out⟩,⟨by (with_reducible repeat (first|refine blk_drewN ?_ _|refine blk_drew ?_|refine blk_alloc ?_ _));refine blk_put (cs:=#[.bool a0_0,.slice none 0 0,.slice none 0 0]) ?_ 2 _ rfl;(with_reducible repeat (first|refine blk_drewN ?_ _|refine blk_drew ?_|refine blk_alloc ?_ _));refine blk_put (cs:=#[.bool a0_0,.slice none 0 0,.slice none 0 0]) ?_ 1 _ rfl;(with_reducible repeat (first|refine blk_drewN ?_ _|refine blk_drew ?_|refine blk_alloc ?_ _));refine blk_put (cs:=#[.bool false,.slice none 0 0,.slice none 0 0]) ?_ 0 _ rfl;(with_reducible repeat (first|refine blk_drewN ?_ _|refine blk_drew ?_|refine blk_alloc ?_ _));exact BK255.out⟩,⟨by repeat (first|(with_reducible first|exact HB.out|apply below_alloc|apply pw_below_drewN|apply below_drew1|refine below_set ?_ GE253.out|refine below_set ?_ GE254.out|refine below_set ?_ GE255.out)|exact HB.out)⟩⟩
 case round =>
  clear H'
  try clear p2
  try clear c4
  try clear c7
  try clear c8
  try clear c9
  try clear hcz10_0
  try clear hcz10_1
  try clear hcz10_2
  try clear hcz5_0
  try clear hcz5_1
  try clear hcz5_2
  try clear hcz9_0
  try clear hcz9_1
  try clear hcz9_2
  try clear hfz10_0
  try clear hfz10_1
  try clear hfz10_2
  try clear hfz5_0
  try clear hfz5_1
  try clear hfz5_2
  try clear hfz9_0
  try clear hfz9_1
  try clear hfz9_2
  obtain ⟨x14_1,x256001_1,u256001,rfl,HA,HK1,HO_256001,BK253,BK254,BK255,HB⟩:=hrel
  cases gk with
  | zero=>exact absurd HA.out (by simp [spec_l2copy.l0])
  | succ k1 =>
   have H:=HA.out
   clear HA
   simp only [spec_l2copy.l0] at H
   by_cases c11:x14_1<(l0_1.length:Int)
   ·rw [if_pos c11] at H
    have c11b0:decide (x14_1<(l0_1.length:Int))=true:=decide_eq_true c11
    clear c11
    by_cases c12:0≤x14_1
    ·rw [if_pos c12] at H
     have c12b0:decide (0≤x14_1)=true:=decide_eq_true c12
     clear c12
     by_cases c13:x14_1<(l0_1.length:Int)
     ·rw [if_pos c13] at H
      have c13b0:decide (x14_1<(l0_1.length:Int))=true:=decide_eq_true c13
      clear c13
      by_cases c14:x256001_1.length<4398046511104
      ·rw [if_pos c14] at H
       have LMc14:=Aside0.mk c14
       clear c14
       obtain ⟨y258,hy258⟩:∃ y_:List (S50),y_=(x256001_1 ++ [(⟨(rd_T50 l0_1 x14_1).f0,(rd_T50 l0_1 x14_1).f1,(rd_T50 l0_1 x14_1).f2,(rd_T50 l0_1 x14_1).f3,(rd_T50 l0_1 x14_1).f4⟩:S50)]):=⟨_,rfl⟩
       replace H:(spec_l2copy.l0 k1 l0_1 (l0_1.length:Int) (wrap64 (x14_1+1)) a0_0 l0_1 l0_2 a0_0 y258)=some (r1,r2,r3):=by first|(rw [hy258];with_reducible exact H)|(have H2_:=(Option.bind_some _ _).symm.trans H;rw [hy258];with_reducible exact H2_)|(have H2_:=(Option.bind_some _ _).symm.trans H;with_reducible exact H2_)|with_reducible exact H|(rw [hy258];exact H)|exact H
       have Ny258:=Aside0.mk hy258
       clear hy258
       have H':=Aside0.mk H
       clear H
       have p256:0≤(x14_1:Int):=of_decide_eq_true (by first|(with_reducible assumption)|assumption)
       have q256:x14_1<(l0_1.length:Int):=of_decide_eq_true (by first|(with_reducible assumption)|assumption)
       obtain ⟨ad256,e256,hx256_0,hx256_1,hx256_2,hx256_3,hx256_4⟩:=at_T50 HR0_1.out x14_1 p256 q256
       cases e256
       replace hx256_0:=(HB.out.cell (World.block_lt_of_cell? w _ hx256_0)).trans hx256_0
       replace hx256_1:=(HB.out.cell (World.block_lt_of_cell? w _ hx256_1)).trans hx256_1
       replace hx256_2:=(HB.out.cell (World.block_lt_of_cell? w _ hx256_2)).trans hx256_2
       replace hx256_3:=(HB.out.cell (World.block_lt_of_cell? w _ hx256_3)).trans hx256_3
       replace hx256_4:=(HB.out.cell (World.block_lt_of_cell? w _ hx256_4)).trans hx256_4
       replace p256:=eq_true p256
       replace q256:=eq_true q256
       go_wp2_with (first|((with_reducible refine gate_dst (N:=5) rfl ?_);refine box_event ?hg (N:=5) ?hd (cs:=#[.int .i64 0,.int .i64 0,.bool false,.bool false,.int .i64 0]) (t:=50) ?hr ?_;(case hd=>rfl);(case hg=>rfl);(case hr=>first|(go_simp;done)|(go_simp;rfl));intro gb257 hg w15 hbox hb;have n0_:=Aside0.mk (Kd.R_below (Kd.R_elderB (by (with_reducible repeat (first|apply Kd.R_alloc|apply Kd.R_drewN|apply Kd.R_drew));exact HO_256001.out) gb257 (Nat.le_of_eq hg.symm)) hb);have n1_:=Aside0.mk (blk_below (g:=gb253) (o:=.cells #[.bool a0_0,.slice (some ad256) l0_1.length c0_1,.slice A0_2 l0_2.length c0_2] 46 (0,0)) (by (with_reducible repeat (first|refine blk_drewN ?_ _|refine blk_drew ?_|refine blk_alloc ?_ _));exact BK253.out) hb);have n2_:=Aside0.mk (blk_below (g:=gb254) (o:=.cells #[.bool false,.slice none 0 0,.slice none 0 0] 46 (0,0)) (by (with_reducible repeat (first|refine blk_drewN ?_ _|refine blk_drew ?_|refine blk_alloc ?_ _));exact BK254.out) hb);have n3_:=Aside0.mk (blk_below (g:=gb255) (o:=.cells #[.bool a0_0,u256001,.slice none 0 0] 46 (0,0)) (by (with_reducible repeat (first|refine blk_drewN ?_ _|refine blk_drew ?_|refine blk_alloc ?_ _));exact BK255.out) hb);have n4_:=Aside0.mk (below_step (by repeat (first|(with_reducible first|exact HB.out|apply below_alloc|apply pw_below_drewN|apply below_drew1|refine below_set ?_ GE253.out|refine below_set ?_ GE254.out|refine below_set ?_ GE255.out)|exact HB.out)) hb);have n5_:=Aside0.mk (hbox);have n6_:=Aside0.mk ((by rw [hg];exact (below_size (by repeat (first|(with_reducible first|exact HB.out|apply below_alloc|apply pw_below_drewN|apply below_drew1|refine below_set ?_ GE253.out|refine below_set ?_ GE254.out|refine below_set ?_ GE255.out)|exact HB.out))):w.heap.size≤gb257));have n7_:=Aside0.mk ((by rw [hg];exact (below_size (by repeat (first|(with_reducible first|exact HB.out|apply below_alloc|apply pw_below_drewN|apply below_drew1|refine below_set ?_ GE253.out|refine below_set ?_ GE254.out|refine below_set ?_ GE255.out)|exact HB.out))):w.heap.size≤gb257));have n8_:=Aside0.mk ((by rw [hg];exact Nat.ne_of_lt (blk_lt (g:=gb253) (o:=.cells #[.bool a0_0,.slice (some ad256) l0_1.length c0_1,.slice A0_2 l0_2.length c0_2] 46 (0,0)) (by (with_reducible repeat (first|refine blk_drewN ?_ _|refine blk_drew ?_|refine blk_alloc ?_ _));exact BK253.out)):gb253 ≠ gb257));have n9_:=Aside0.mk ((by rw [hg];exact Nat.ne_of_gt (blk_lt (g:=gb253) (o:=.cells #[.bool a0_0,.slice (some ad256) l0_1.length c0_1,.slice A0_2 l0_2.length c0_2] 46 (0,0)) (by (with_reducible repeat (first|refine blk_drewN ?_ _|refine blk_drew ?_|refine blk_alloc ?_ _));exact BK253.out)):gb257 ≠ gb253));have n10_:=Aside0.mk ((by rw [hg];exact Nat.ne_of_lt (blk_lt (g:=gb254) (o:=.cells #[.bool false,.slice none 0 0,.slice none 0 0] 46 (0,0)) (by (with_reducible repeat (first|refine blk_drewN ?_ _|refine blk_drew ?_|refine blk_alloc ?_ _));exact BK254.out)):gb254 ≠ gb257));have n11_:=Aside0.mk ((by rw [hg];exact Nat.ne_of_gt (blk_lt (g:=gb254) (o:=.cells #[.bool false,.slice none 0 0,.slice none 0 0] 46 (0,0)) (by (with_reducible repeat (first|refine blk_drewN ?_ _|refine blk_drew ?_|refine blk_alloc ?_ _));exact BK254.out)):gb257 ≠ gb254));have n12_:=Aside0.mk ((by rw [hg];exact Nat.ne_of_lt (blk_lt (g:=gb255) (o:=.cells #[.bool a0_0,u256001,.slice none 0 0] 46 (0,0)) (by (with_reducible repeat (first|refine blk_drewN ?_ _|refine blk_drew ?_|refine blk_alloc ?_ _));exact BK255.out)):gb255 ≠ gb257));have n13_:=Aside0.mk ((by rw [hg];exact Nat.ne_of_gt (blk_lt (g:=gb255) (o:=.cells #[.bool a0_0,u256001,.slice none 0 0] 46 (0,0)) (by (with_reducible repeat (first|refine blk_drewN ?_ _|refine blk_drew ?_|refine blk_alloc ?_ _));exact BK255.out)):gb257 ≠ gb255));clear HO_256001;clear BK253;clear BK254;clear BK255;clear HB;have HO_256001:=n0_;have BK253:=n1_;have BK254:=n2_;have BK255:=n3_;have HB:=n4_;have BK257:=n5_;have GW257:=n6_;have GE257:=n7_;have NB253_257:=n8_;have NB257_253:=n9_;have NB254_257:=n10_;have NB257_254:=n11_;have NB255_257:=n12_;have NB257_255:=n13_;clear n0_ n1_ n2_ n3_ n4_ n5_ n6_ n7_ n8_ n9_ n10_ n11_ n12_ n13_;clear hb hbox hg;have hnb16:=NB257_253.out;have hnc16:=NB253_257.out;have hnb17:=NB257_254.out;have hnc17:=NB254_257.out;have hnb18:=NB257_255.out;have hnc18:=NB255_257.out;have hcz19_0:w15.cell? ⟨gb257,0,none⟩=some (.int .i64 0):=(blk_cell BK257.out 0).trans rfl;have hcz19_1:w15.cell? ⟨gb257,1,none⟩=some (.int .i64 0):=(blk_cell BK257.out 1).trans rfl;have hcz19_2:w15.cell? ⟨gb257,2,none⟩=some (.bool false):=(blk_cell BK257.out 2).trans rfl;have hcz19_3:w15.cell? ⟨gb257,3,none⟩=some (.bool false):=(blk_cell BK257.out 3).trans rfl;have hcz19_4:w15.cell? ⟨gb257,4,none⟩=some (.int .i64 0):=(blk_cell BK257.out 4).trans rfl;have hfz19_0:=blk_frozen BK257.out 0;have hfz19_1:=blk_frozen BK257.out 1;have hfz19_2:=blk_frozen BK257.out 2;have hfz19_3:=blk_frozen BK257.out 3;have hfz19_4:=blk_frozen BK257.out 4;have hnb20:=NB255_253.out;have hnc20:=NB253_255.out;have hnb21:=NB255_254.out;have hnc21:=NB254_255.out;have hcz22_0:w15.cell? ⟨gb255,0,none⟩=some (.bool a0_0):=(blk_cell BK255.out 0).trans rfl;have hcz22_1:w15.cell? ⟨gb255,1,none⟩=some (u256001):=(blk_cell BK255.out 1).trans rfl;have hcz22_2:w15.cell? ⟨gb255,2,none⟩=some (.slice none 0 0):=(blk_cell BK255.out 2).trans rfl;have hfz22_0:=blk_frozen BK255.out 0;have hfz22_1:=blk_frozen BK255.out 1;have hfz22_2:=blk_frozen BK255.out 2)|((with_reducible refine gate_builtin (b:=.append) (xs:=#[.tmp 19,.tmp 21]) rfl ?_);at_builtin;refine Kd.R_append k50 (w0:=w) w.heap.size rfl (.tmp 19) (.tmp 21) 43 50 (.agg #[(.int .i64 0),(.int .i64 0),(.bool false),(.bool false),(.int .i64 0)]) 32 rfl Try.underlying43 info50 rfl (by decide) (by omega) u256001 x256001_1 (⟨(rd_T50 l0_1 x14_1).f0,(rd_T50 l0_1 x14_1).f1,(rd_T50 l0_1 x14_1).f2,(rd_T50 l0_1 x14_1).f3,(rd_T50 l0_1 x14_1).f4⟩:S50) [.int .i64 ((rd_T50 l0_1 x14_1).f0),.int .i64 ((rd_T50 l0_1 x14_1).f1),.bool ((rd_T50 l0_1 x14_1).f2),.bool ((rd_T50 l0_1 x14_1).f3),.int .i64 ((rd_T50 l0_1 x14_1).f4)] (fun k_=>k_ ≠ gb257) (fun _=>False) rfl (by first|(go_simp;done)|(go_simp;rfl)) ?aP (fun _ hk=>hk.elim) ?aF ?aO ?aB ?aS ?aL ?_;(case aP=>exact k50_mkM _ _ _ (⟨(rd_T50 l0_1 x14_1).f0,(rd_T50 l0_1 x14_1).f1,(rd_T50 l0_1 x14_1).f2,(rd_T50 l0_1 x14_1).f3,(rd_T50 l0_1 x14_1).f4⟩:S50));(case aB=>exact (by repeat (first|(with_reducible first|exact HB.out|apply below_alloc|apply pw_below_drewN|apply below_drew1|refine below_set ?_ GE253.out|refine below_set ?_ GE254.out|refine below_set ?_ GE255.out|refine below_set ?_ GE257.out)|exact HB.out)));(case aF=>exact (fun k_ hk=>Kd.freshB (g:=gb257) (o:=.cells #[.int .i64 ((rd_T50 l0_1 x14_1).f0),.int .i64 ((rd_T50 l0_1 x14_1).f1),.bool ((rd_T50 l0_1 x14_1).f2),.bool ((rd_T50 l0_1 x14_1).f3),.int .i64 ((rd_T50 l0_1 x14_1).f4)] 50 (0,0)) (by (with_reducible repeat (first|refine blk_drewN ?_ _|refine blk_drew ?_|refine blk_alloc ?_ _));refine blk_put (cs:=#[.int .i64 ((rd_T50 l0_1 x14_1).f0),.int .i64 ((rd_T50 l0_1 x14_1).f1),.bool ((rd_T50 l0_1 x14_1).f2),.bool ((rd_T50 l0_1 x14_1).f3),.int .i64 0]) ?_ 4 _ rfl;(with_reducible repeat (first|refine blk_drewN ?_ _|refine blk_drew ?_|refine blk_alloc ?_ _));refine blk_put (cs:=#[.int .i64 ((rd_T50 l0_1 x14_1).f0),.int .i64 ((rd_T50 l0_1 x14_1).f1),.bool ((rd_T50 l0_1 x14_1).f2),.bool false,.int .i64 0]) ?_ 3 _ rfl;(with_reducible repeat (first|refine blk_drewN ?_ _|refine blk_drew ?_|refine blk_alloc ?_ _));refine blk_put (cs:=#[.int .i64 ((rd_T50 l0_1 x14_1).f0),.int .i64 ((rd_T50 l0_1 x14_1).f1),.bool false,.bool false,.int .i64 0]) ?_ 2 _ rfl;(with_reducible repeat (first|refine blk_drewN ?_ _|refine blk_drew ?_|refine blk_alloc ?_ _));refine blk_put (cs:=#[.int .i64 ((rd_T50 l0_1 x14_1).f0),.int .i64 0,.bool false,.bool false,.int .i64 0]) ?_ 1 _ rfl;(with_reducible repeat (first|refine blk_drewN ?_ _|refine blk_drew ?_|refine blk_alloc ?_ _));refine blk_put (cs:=#[.int .i64 0,.int .i64 0,.bool false,.bool false,.int .i64 0]) ?_ 0 _ rfl;(with_reducible repeat (first|refine blk_drewN ?_ _|refine blk_drew ?_|refine blk_alloc ?_ _));exact BK257.out) k_ hk));(case aO=>exact (by (with_reducible repeat (first|apply Kd.R_alloc|apply Kd.R_drewN|apply Kd.R_drew));exact Kd.R_mono (Kd.R_far (p:=⟨gb257,4,none⟩) (Kd.R_far (p:=⟨gb257,3,none⟩) (Kd.R_far (p:=⟨gb257,2,none⟩) (Kd.R_far (p:=⟨gb257,1,none⟩) (Kd.R_far (p:=⟨gb257,0,none⟩) (Kd.R_mono HO_256001.out (fun k_ hk=>(⟨hk,hk.2⟩:_∧k_ ≠ gb257))) (fun _ hk=>hk.2) (.int .i64 ((rd_T50 l0_1 x14_1).f0))) (fun _ hk=>hk.2) (.int .i64 ((rd_T50 l0_1 x14_1).f1))) (fun _ hk=>hk.2) (.bool ((rd_T50 l0_1 x14_1).f2))) (fun _ hk=>hk.2) (.bool ((rd_T50 l0_1 x14_1).f3))) (fun _ hk=>hk.2) (.int .i64 ((rd_T50 l0_1 x14_1).f4))) (fun _ hk=>hk.1.2)));(case aS=>exact (below_size (by repeat (first|(with_reducible first|exact HB.out|apply below_alloc|apply pw_below_drewN|apply below_drew1|refine below_set ?_ GE253.out|refine below_set ?_ GE254.out|refine below_set ?_ GE255.out|refine below_set ?_ GE257.out)|exact HB.out))));(case aL=>have:=LMc14.out;omega);intro v259 w23 ho hb hg hat;rw [← Ny258.out] at ho;have n0_:=Aside0.mk (blk_grown (g:=gb253) (o:=.cells #[.bool a0_0,.slice (some ad256) l0_1.length c0_1,.slice A0_2 l0_2.length c0_2] 46 (0,0)) (by (with_reducible repeat (first|refine blk_drewN ?_ _|refine blk_drew ?_|refine blk_alloc ?_ _));refine blk_far ?_ NB253_257.out _;(with_reducible repeat (first|refine blk_drewN ?_ _|refine blk_drew ?_|refine blk_alloc ?_ _));refine blk_far ?_ NB253_257.out _;(with_reducible repeat (first|refine blk_drewN ?_ _|refine blk_drew ?_|refine blk_alloc ?_ _));refine blk_far ?_ NB253_257.out _;(with_reducible repeat (first|refine blk_drewN ?_ _|refine blk_drew ?_|refine blk_alloc ?_ _));refine blk_far ?_ NB253_257.out _;(with_reducible repeat (first|refine blk_drewN ?_ _|refine blk_drew ?_|refine blk_alloc ?_ _));refine blk_far ?_ NB253_257.out _;(with_reducible repeat (first|refine blk_drewN ?_ _|refine blk_drew ?_|refine blk_alloc ?_ _));exact BK253.out) hg (Kd.R_ne HO_256001.out BK253.out (by decide)));have n1_:=Aside0.mk (blk_grown (g:=gb254) (o:=.cells #[.bool false,.slice none 0 0,.slice none 0 0] 46 (0,0)) (by (with_reducible repeat (first|refine blk_drewN ?_ _|refine blk_drew ?_|refine blk_alloc ?_ _));refine blk_far ?_ NB254_257.out _;(with_reducible repeat (first|refine blk_drewN ?_ _|refine blk_drew ?_|refine blk_alloc ?_ _));refine blk_far ?_ NB254_257.out _;(with_reducible repeat (first|refine blk_drewN ?_ _|refine blk_drew ?_|refine blk_alloc ?_ _));refine blk_far ?_ NB254_257.out _;(with_reducible repeat (first|refine blk_drewN ?_ _|refine blk_drew ?_|refine blk_alloc ?_ _));refine blk_far ?_ NB254_257.out _;(with_reducible repeat (first|refine blk_drewN ?_ _|refine blk_drew ?_|refine blk_alloc ?_ _));refine blk_far ?_ NB254_257.out _;(with_reducible repeat (first|refine blk_drewN ?_ _|refine blk_drew ?_|refine blk_alloc ?_ _));exact BK254.out) hg (Kd.R_ne HO_256001.out BK254.out (by decide)));have n2_:=Aside0.mk (blk_grown (g:=gb255) (o:=.cells #[.bool a0_0,u256001,.slice none 0 0] 46 (0,0)) (by (with_reducible repeat (first|refine blk_drewN ?_ _|refine blk_drew ?_|refine blk_alloc ?_ _));refine blk_far ?_ NB255_257.out _;(with_reducible repeat (first|refine blk_drewN ?_ _|refine blk_drew ?_|refine blk_alloc ?_ _));refine blk_far ?_ NB255_257.out _;(with_reducible repeat (first|refine blk_drewN ?_ _|refine blk_drew ?_|refine blk_alloc ?_ _));refine blk_far ?_ NB255_257.out _;(with_reducible repeat (first|refine blk_drewN ?_ _|refine blk_drew ?_|refine blk_alloc ?_ _));refine blk_far ?_ NB255_257.out _;(with_reducible repeat (first|refine blk_drewN ?_ _|refine blk_drew ?_|refine blk_alloc ?_ _));refine blk_far ?_ NB255_257.out _;(with_reducible repeat (first|refine blk_drewN ?_ _|refine blk_drew ?_|refine blk_alloc ?_ _));exact BK255.out) hg (Kd.R_ne HO_256001.out BK255.out (by decide)));have n3_:=Aside0.mk (blk_grown (g:=gb257) (o:=.cells #[.int .i64 ((rd_T50 l0_1 x14_1).f0),.int .i64 ((rd_T50 l0_1 x14_1).f1),.bool ((rd_T50 l0_1 x14_1).f2),.bool ((rd_T50 l0_1 x14_1).f3),.int .i64 ((rd_T50 l0_1 x14_1).f4)] 50 (0,0)) (by (with_reducible repeat (first|refine blk_drewN ?_ _|refine blk_drew ?_|refine blk_alloc ?_ _));refine blk_put (cs:=#[.int .i64 ((rd_T50 l0_1 x14_1).f0),.int .i64 ((rd_T50 l0_1 x14_1).f1),.bool ((rd_T50 l0_1 x14_1).f2),.bool ((rd_T50 l0_1 x14_1).f3),.int .i64 0]) ?_ 4 _ rfl;(with_reducible repeat (first|refine blk_drewN ?_ _|refine blk_drew ?_|refine blk_alloc ?_ _));refine blk_put (cs:=#[.int .i64 ((rd_T50 l0_1 x14_1).f0),.int .i64 ((rd_T50 l0_1 x14_1).f1),.bool ((rd_T50 l0_1 x14_1).f2),.bool false,.int .i64 0]) ?_ 3 _ rfl;(with_reducible repeat (first|refine blk_drewN ?_ _|refine blk_drew ?_|refine blk_alloc ?_ _));refine blk_put (cs:=#[.int .i64 ((rd_T50 l0_1 x14_1).f0),.int .i64 ((rd_T50 l0_1 x14_1).f1),.bool false,.bool false,.int .i64 0]) ?_ 2 _ rfl;(with_reducible repeat (first|refine blk_drewN ?_ _|refine blk_drew ?_|refine blk_alloc ?_ _));refine blk_put (cs:=#[.int .i64 ((rd_T50 l0_1 x14_1).f0),.int .i64 0,.bool false,.bool false,.int .i64 0]) ?_ 1 _ rfl;(with_reducible repeat (first|refine blk_drewN ?_ _|refine blk_drew ?_|refine blk_alloc ?_ _));refine blk_put (cs:=#[.int .i64 0,.int .i64 0,.bool false,.bool false,.int .i64 0]) ?_ 0 _ rfl;(with_reducible repeat (first|refine blk_drewN ?_ _|refine blk_drew ?_|refine blk_alloc ?_ _));exact BK257.out) hg (Kd.R_away HO_256001.out (fun _ hk=>hk.2)));have n4_:=Aside0.mk (hb);have n5_:=Aside0.mk (ho);clear BK253;clear BK254;clear BK255;clear BK257;clear HB;clear HO_256001;have BK253:=n0_;have BK254:=n1_;have BK255:=n2_;have BK257:=n3_;have HB:=n4_;have HO260:=n5_;clear n0_ n1_ n2_ n3_ n4_ n5_;clear ho hb hg hat;obtain ⟨Ao24,co24,eo24⟩:=Kd.R_slice HO260.out;subst eo24;have hcz25_0:w23.cell? ⟨gb255,0,none⟩=some (.bool a0_0):=(blk_cell BK255.out 0).trans rfl;have hcz25_1:w23.cell? ⟨gb255,1,none⟩=some (u256001):=(blk_cell BK255.out 1).trans rfl;have hcz25_2:w23.cell? ⟨gb255,2,none⟩=some (.slice none 0 0):=(blk_cell BK255.out 2).trans rfl;have hfz25_0:=blk_frozen BK255.out 0;have hfz25_1:=blk_frozen BK255.out 1;have hfz25_2:=blk_frozen BK255.out 2))
       go_roundg k1
       case measure=>have:=HK1.out;omega
       case rel=>exact ⟨(wrap64 (x14_1+1)),(y258),(.slice Ao24 y258.length co24),(by first|rfl|(simp;done)|(simp [*];done)),H',⟨by have:=HK1.out;omega⟩,⟨by (with_reducible repeat (first|apply Kd.R_alloc|apply Kd.R_drewN|apply Kd.R_drew));exact Kd.R_mono (Kd.R_far (p:=⟨gb255,1,none⟩) (Kd.R_types HO260.out BK255.out (by decide)) (fun _ hk=>hk.2) (.slice Ao24 y258.length co24)) (fun _ hk=>trivial)⟩,⟨by (with_reducible repeat (first|refine blk_drewN ?_ _|refine blk_drew ?_|refine blk_alloc ?_ _));refine blk_far ?_ NB253_255.out _;(with_reducible repeat (first|refine blk_drewN ?_ _|refine blk_drew ?_|refine blk_alloc ?_ _));exact BK253.out⟩,⟨by (with_reducible repeat (first|refine blk_drewN ?_ _|refine blk_drew ?_|refine blk_alloc ?_ _));refine blk_far ?_ NB254_255.out _;(with_reducible repeat (first|refine blk_drewN ?_ _|refine blk_drew ?_|refine blk_alloc ?_ _));exact BK254.out⟩,⟨by (with_reducible repeat (first|refine blk_drewN ?_ _|refine blk_drew ?_|refine blk_alloc ?_ _));refine blk_put (cs:=#[.bool a0_0,u256001,.slice none 0 0]) ?_ 1 _ rfl;(with_reducible repeat (first|refine blk_drewN ?_ _|refine blk_drew ?_|refine blk_alloc ?_ _));exact BK255.out⟩,⟨by repeat (first|(with_reducible first|exact HB.out|apply below_alloc|apply pw_below_drewN|apply below_drew1|refine below_set ?_ GE253.out|refine below_set ?_ GE254.out|refine below_set ?_ GE255.out|refine below_set ?_ GE257.out)|exact HB.out)⟩⟩
      rw [if_neg c14] at H
      exact absurd H (by simp)
     rw [if_neg c13] at H
     exact absurd H (by simp)
    rw [if_neg c12] at H
    exact absurd H (by simp)
   rw [if_neg c11] at H
   have c11b0:decide (x14_1<(l0_1.length:Int))=false:=decide_eq_false c11
   clear c11
   have H':=Aside0.mk H
   clear H
   have hnb26:=NB253_254.out
   have hnc26:=NB254_253.out
   have hnb27:=NB253_255.out
   have hnc27:=NB255_253.out
   have hcz28_0:wr.cell? ⟨gb253,0,none⟩=some (.bool a0_0):=(blk_cell BK253.out 0).trans rfl
   have hcz28_1:wr.cell? ⟨gb253,1,none⟩=some (.slice A0_1 l0_1.length c0_1):=(blk_cell BK253.out 1).trans rfl
   have hcz28_2:wr.cell? ⟨gb253,2,none⟩=some (.slice A0_2 l0_2.length c0_2):=(blk_cell BK253.out 2).trans rfl
   have hfz28_0:=blk_frozen BK253.out 0
   have hfz28_1:=blk_frozen BK253.out 1
   have hfz28_2:=blk_frozen BK253.out 2
   go_wp2
   go_loopg [28] k1 (fun kq v28 w'=>∃ (x28_2:Int) (x256002_2:List Bool) (u256002:Value),v28=.int .i64 x28_2∧Aside0 (spec_l2copy.l1 kq l0_2 (l0_2.length:Int) x28_2 a0_0 x256001_1 x256002_2=some (r1,r2,r3))∧Aside0 (kq≤k1)∧Aside0 (Kd.R k50 50 w' w.heap.size (fun _=>True) u256001 x256001_1)∧Aside0 (Kd.R Kd.bool 4 w' w.heap.size (fun _=>True) u256002 x256002_2)∧Aside0 (w'.heap[gb253]?=some (.cells #[.bool a0_0,(.slice A0_1 l0_1.length c0_1),(.slice A0_2 l0_2.length c0_2)] 46 (0,0)))∧Aside0 (w'.heap[gb254]?=some (.cells #[.bool false,(.slice none 0 0),(.slice none 0 0)] 46 (0,0)))∧Aside0 (w'.heap[gb255]?=some (.cells #[.bool a0_0,u256001,u256002] 46 (0,0)))∧Aside0 (Below w.heap.size w w'))
   case atStart=>exact ⟨(0),(([]:List Bool)),(.slice none 0 0),(by first|rfl|(simp;done)|(simp [*];done)),H',⟨Nat.le_refl _⟩,⟨by (with_reducible repeat (first|apply Kd.R_alloc|apply Kd.R_drewN|apply Kd.R_drew));exact HO_256001.out⟩,⟨by first|exact Kd.R_nil _ _ _ _ _|exact Kd.N_nil _ _ _ _ _|exact Kd.V_nil _ _ _ _ _|exact Kd.Q_nil _ _ _ _ _|exact Kd.S_nil _ _ _ _ _⟩,⟨by (with_reducible repeat (first|refine blk_drewN ?_ _|refine blk_drew ?_|refine blk_alloc ?_ _));exact BK253.out⟩,⟨by (with_reducible repeat (first|refine blk_drewN ?_ _|refine blk_drew ?_|refine blk_alloc ?_ _));exact BK254.out⟩,⟨by (with_reducible repeat (first|refine blk_drewN ?_ _|refine blk_drew ?_|refine blk_alloc ?_ _));exact BK255.out⟩,⟨by repeat (first|(with_reducible first|exact HB.out|apply below_alloc|apply pw_below_drewN|apply below_drew1|refine below_set ?_ GE253.out|refine below_set ?_ GE254.out|refine below_set ?_ GE255.out)|exact HB.out)⟩⟩
   case round =>
    clear H'
    try clear c1
    try clear c2
    try clear p2
    try clear q2
    try clear hx2
    try clear c4
    try clear p6
    try clear c7
    try clear c8
    try clear c9
    try clear c11
    try clear c11b0
    try clear c12
    try clear c12b0
    try clear c13
    try clear c13b0
    try clear c14
    try clear c16
    try clear c17
    try clear c18
    try clear c20
    try clear c21
    try clear p25
    try clear q25
    try clear hx25
    try clear c26
    try clear c27
    try clear hcz10_0
    try clear hcz10_1
    try clear hcz10_2
    try clear hcz19_0
    try clear hcz19_1
    try clear hcz19_2
    try clear hcz19_3
    try clear hcz19_4
    try clear hcz22_0
    try clear hcz22_1
    try clear hcz22_2
    try clear hcz25_0
    try clear hcz25_1
    try clear hcz25_2
    try clear hcz28_0
    try clear hcz28_1
    try clear hcz28_2
    try clear hcz5_0
    try clear hcz5_1
    try clear hcz5_2
    try clear hcz9_0
    try clear hcz9_1
    try clear hcz9_2
    try clear hfz10_0
    try clear hfz10_1
    try clear hfz10_2
    try clear hfz19_0
    try clear hfz19_1
    try clear hfz19_2
    try clear hfz19_3
    try clear hfz19_4
    try clear hfz22_0
    try clear hfz22_1
    try clear hfz22_2
    try clear hfz25_0
    try clear hfz25_1
    try clear hfz25_2
    try clear hfz28_0
    try clear hfz28_1
    try clear hfz28_2
    try clear hfz5_0
    try clear hfz5_1
    try clear hfz5_2
    try clear hfz9_0
    try clear hfz9_1
    try clear hfz9_2
    try clear hx256_0
    try clear hx256_1
    try clear hx256_2
    try clear hx256_3
    try clear hx256_4
    try clear p2
    try clear p256
    try clear q256
    obtain ⟨x28_2,x256002_2,u256002,rfl,HA,HK2,HO_256001,HO_256002,BK253,BK254,BK255,HB⟩:=hrel
    cases gk with
    | zero=>exact absurd HA.out (by simp [spec_l2copy.l1])
    | succ k2 =>
     have H:=HA.out
     clear HA
     simp only [spec_l2copy.l1] at H
     by_cases c29:x28_2<(l0_2.length:Int)
     ·rw [if_pos c29] at H
      have c29b0:decide (x28_2<(l0_2.length:Int))=true:=decide_eq_true c29
      clear c29
      by_cases c30:0≤x28_2
      ·rw [if_pos c30] at H
       have c30b0:decide (0≤x28_2)=true:=decide_eq_true c30
       clear c30
       by_cases c31:x28_2<(l0_2.length:Int)
       ·rw [if_pos c31] at H
        have c31b0:decide (x28_2<(l0_2.length:Int))=true:=decide_eq_true c31
        clear c31
        by_cases c32:x256002_2.length<140737488355328
        ·rw [if_pos c32] at H
         have LMc32:=Aside0.mk c32
         clear c32
         obtain ⟨y262,hy262⟩:∃ y_:List Bool,y_=(x256002_2 ++ [rdOf false l0_2 x28_2]):=⟨_,rfl⟩
         replace H:(spec_l2copy.l1 k2 l0_2 (l0_2.length:Int) (wrap64 (x28_2+1)) a0_0 x256001_1 y262)=some (r1,r2,r3):=by first|(rw [hy262];with_reducible exact H)|(have H2_:=(Option.bind_some _ _).symm.trans H;rw [hy262];with_reducible exact H2_)|(have H2_:=(Option.bind_some _ _).symm.trans H;with_reducible exact H2_)|with_reducible exact H|(rw [hy262];exact H)|exact H
         have Ny262:=Aside0.mk hy262
         clear hy262
         have H':=Aside0.mk H
         clear H
         have p261:0≤(x28_2:Int):=of_decide_eq_true (by first|(with_reducible assumption)|assumption)
         have q261:x28_2<(l0_2.length:Int):=of_decide_eq_true (by first|(with_reducible assumption)|assumption)
         obtain ⟨ad261,e261,hx261_0⟩:=Kd.at_bool HR0_2.out x28_2 p261 q261
         cases e261
         replace hx261_0:=(HB.out.cell (World.block_lt_of_cell? w _ hx261_0)).trans hx261_0
         replace p261:=eq_true p261
         replace q261:=eq_true q261
         have hnb33:=NB255_253.out
         have hnc33:=NB253_255.out
         have hnb34:=NB255_254.out
         have hnc34:=NB254_255.out
         have hcz35_0:wr.cell? ⟨gb255,0,none⟩=some (.bool a0_0):=(blk_cell BK255.out 0).trans rfl
         have hcz35_1:wr.cell? ⟨gb255,1,none⟩=some (u256001):=(blk_cell BK255.out 1).trans rfl
         have hcz35_2:wr.cell? ⟨gb255,2,none⟩=some (u256002):=(blk_cell BK255.out 2).trans rfl
         have hfz35_0:=blk_frozen BK255.out 0
         have hfz35_1:=blk_frozen BK255.out 1
         have hfz35_2:=blk_frozen BK255.out 2
         go_wp2_with (first|((with_reducible refine gate_builtin (b:=.append) (xs:=#[.tmp 33,.tmp 35]) rfl ?_);at_builtin;refine Kd.R_append Kd.bool (w0:=w) w.heap.size rfl (.tmp 33) (.tmp 35) 44 4 (.bool false) 1 rfl Try.underlying44 info4 rfl (by decide) (by omega) u256002 x256002_2 (rdOf false l0_2 x28_2) [.bool (rdOf false l0_2 x28_2)] (fun _=>True) (fun _=>False) rfl rfl ?aP (fun _ hk=>hk.elim) ?aF ?aO ?aB ?aS ?aL ?_;(case aP=>exact rfl);(case aB=>exact (by repeat (first|(with_reducible first|exact HB.out|apply below_alloc|apply pw_below_drewN|apply below_drew1|refine below_set ?_ GE253.out|refine below_set ?_ GE254.out|refine below_set ?_ GE255.out)|exact HB.out)));(case aF=>exact (fun _ _=>trivial));(case aO=>exact (by (with_reducible repeat (first|apply Kd.R_alloc|apply Kd.R_drewN|apply Kd.R_drew));exact HO_256002.out));(case aS=>exact (below_size (by repeat (first|(with_reducible first|exact HB.out|apply below_alloc|apply pw_below_drewN|apply below_drew1|refine below_set ?_ GE253.out|refine below_set ?_ GE254.out|refine below_set ?_ GE255.out)|exact HB.out))));(case aL=>have:=LMc32.out;omega);intro v263 w36 ho hb hg hat;rw [← Ny262.out] at ho;have n0_:=Aside0.mk (Kd.R_over' (by (with_reducible repeat (first|apply Kd.R_alloc|apply Kd.R_drewN|apply Kd.R_drew));exact HO_256001.out) (Kd.R_typed (by (with_reducible repeat (first|apply Kd.R_alloc|apply Kd.R_drewN|apply Kd.R_drew));exact HO_256002.out)) (by decide) hg);have n1_:=Aside0.mk (blk_grown (g:=gb253) (o:=.cells #[.bool a0_0,.slice A0_1 l0_1.length c0_1,.slice (some ad261) l0_2.length c0_2] 46 (0,0)) (by (with_reducible repeat (first|refine blk_drewN ?_ _|refine blk_drew ?_|refine blk_alloc ?_ _));exact BK253.out) hg (Kd.R_ne HO_256002.out BK253.out (by decide)));have n2_:=Aside0.mk (blk_grown (g:=gb254) (o:=.cells #[.bool false,.slice none 0 0,.slice none 0 0] 46 (0,0)) (by (with_reducible repeat (first|refine blk_drewN ?_ _|refine blk_drew ?_|refine blk_alloc ?_ _));exact BK254.out) hg (Kd.R_ne HO_256002.out BK254.out (by decide)));have n3_:=Aside0.mk (blk_grown (g:=gb255) (o:=.cells #[.bool a0_0,u256001,u256002] 46 (0,0)) (by (with_reducible repeat (first|refine blk_drewN ?_ _|refine blk_drew ?_|refine blk_alloc ?_ _));exact BK255.out) hg (Kd.R_ne HO_256002.out BK255.out (by decide)));have n4_:=Aside0.mk (hb);have n5_:=Aside0.mk (ho);clear HO_256001;clear BK253;clear BK254;clear BK255;clear HB;clear HO_256002;have HO_256001:=n0_;have BK253:=n1_;have BK254:=n2_;have BK255:=n3_;have HB:=n4_;have HO264:=n5_;clear n0_ n1_ n2_ n3_ n4_ n5_;clear ho hb hg hat;obtain ⟨Ao37,co37,eo37⟩:=Kd.R_slice HO264.out;subst eo37;have hcz38_0:w36.cell? ⟨gb255,0,none⟩=some (.bool a0_0):=(blk_cell BK255.out 0).trans rfl;have hcz38_1:w36.cell? ⟨gb255,1,none⟩=some (u256001):=(blk_cell BK255.out 1).trans rfl;have hcz38_2:w36.cell? ⟨gb255,2,none⟩=some (u256002):=(blk_cell BK255.out 2).trans rfl;have hfz38_0:=blk_frozen BK255.out 0;have hfz38_1:=blk_frozen BK255.out 1;have hfz38_2:=blk_frozen BK255.out 2))
         go_roundg k2
         case measure=>have:=HK1.out;have:=HK2.out;omega
         case rel=>exact ⟨(wrap64 (x28_2+1)),(y262),(.slice Ao37 y262.length co37),(by first|rfl|(simp;done)|(simp [*];done)),H',⟨by have:=HK1.out;have:=HK2.out;omega⟩,⟨by (with_reducible repeat (first|apply Kd.R_alloc|apply Kd.R_drewN|apply Kd.R_drew));exact Kd.R_mono (Kd.R_far (p:=⟨gb255,2,none⟩) (Kd.R_types HO_256001.out BK255.out (by decide)) (fun _ hk=>hk.2) (.slice Ao37 y262.length co37)) (fun _ hk=>trivial)⟩,⟨by (with_reducible repeat (first|apply Kd.R_alloc|apply Kd.R_drewN|apply Kd.R_drew));exact Kd.R_mono (Kd.R_far (p:=⟨gb255,2,none⟩) (Kd.R_types HO264.out BK255.out (by decide)) (fun _ hk=>hk.2) (.slice Ao37 y262.length co37)) (fun _ hk=>trivial)⟩,⟨by (with_reducible repeat (first|refine blk_drewN ?_ _|refine blk_drew ?_|refine blk_alloc ?_ _));refine blk_far ?_ NB253_255.out _;(with_reducible repeat (first|refine blk_drewN ?_ _|refine blk_drew ?_|refine blk_alloc ?_ _));exact BK253.out⟩,⟨by (with_reducible repeat (first|refine blk_drewN ?_ _|refine blk_drew ?_|refine blk_alloc ?_ _));refine blk_far ?_ NB254_255.out _;(with_reducible repeat (first|refine blk_drewN ?_ _|refine blk_drew ?_|refine blk_alloc ?_ _));exact BK254.out⟩,⟨by (with_reducible repeat (first|refine blk_drewN ?_ _|refine blk_drew ?_|refine blk_alloc ?_ _));refine blk_put (cs:=#[.bool a0_0,u256001,u256002]) ?_ 2 _ rfl;(with_reducible repeat (first|refine blk_drewN ?_ _|refine blk_drew ?_|refine blk_alloc ?_ _));exact BK255.out⟩,⟨by repeat (first|(with_reducible first|exact HB.out|apply below_alloc|apply pw_below_drewN|apply below_drew1|refine below_set ?_ GE253.out|refine below_set ?_ GE254.out|refine below_set ?_ GE255.out)|exact HB.out)⟩⟩
        rw [if_neg c32] at H
        exact absurd H (by simp)
       rw [if_neg c31] at H
       exact absurd H (by simp)
      rw [if_neg c30] at H
      exact absurd H (by simp)
     rw [if_neg c29] at H
     have c29b0:decide (x28_2<(l0_2.length:Int))=false:=decide_eq_false c29
     clear c29
     simp only [Option.some.injEq,Prod.mk.injEq] at H
     obtain ⟨rfl,rfl,rfl⟩:=H
     have hnb39:=NB255_253.out
     have hnc39:=NB253_255.out
     have hnb40:=NB255_254.out
     have hnc40:=NB254_255.out
     have hcz41_0:wr.cell? ⟨gb255,0,none⟩=some (.bool a0_0):=(blk_cell BK255.out 0).trans rfl
     have hcz41_1:wr.cell? ⟨gb255,1,none⟩=some (u256001):=(blk_cell BK255.out 1).trans rfl
     have hcz41_2:wr.cell? ⟨gb255,2,none⟩=some (u256002):=(blk_cell BK255.out 2).trans rfl
     have hfz41_0:=blk_frozen BK255.out 0
     have hfz41_1:=blk_frozen BK255.out 1
     have hfz41_2:=blk_frozen BK255.out 2
     have hnb42:=NB254_253.out
     have hnc42:=NB253_254.out
     have hcz43_0:wr.cell? ⟨gb254,0,none⟩=some (.bool false):=(blk_cell BK254.out 0).trans rfl
     have hcz43_1:wr.cell? ⟨gb254,1,none⟩=some (.slice none 0 0):=(blk_cell BK254.out 1).trans rfl
     have hcz43_2:wr.cell? ⟨gb254,2,none⟩=some (.slice none 0 0):=(blk_cell BK254.out 2).trans rfl
     have hfz43_0:=blk_frozen BK254.out 0
     have hfz43_1:=blk_frozen BK254.out 1
     have hfz43_2:=blk_frozen BK254.out 2
     obtain ⟨Ao44,co44,eo44⟩:=Kd.R_slice HO_256001.out
     subst eo44
     obtain ⟨Ao45,co45,eo45⟩:=Kd.R_slice HO_256002.out
     subst eo45
     go_wp2
     refine bodyPost_ret (results_cell_row rfl _ _ gb254 46 #[.bool a0_0,.slice Ao44 x256001_1.length co44,.slice Ao45 x256002_2.length co45] (0,0) _ rfl (by (with_reducible repeat (first|refine blk_drewN ?_ _|refine blk_drew ?_|refine blk_alloc ?_ _));refine blk_put (cs:=#[.bool a0_0,.slice Ao44 x256001_1.length co44,.slice none 0 0]) ?_ 2 _ rfl;(with_reducible repeat (first|refine blk_drewN ?_ _|refine blk_drew ?_|refine blk_alloc ?_ _));refine blk_put (cs:=#[.bool a0_0,.slice none 0 0,.slice none 0 0]) ?_ 1 _ rfl;(with_reducible repeat (first|refine blk_drewN ?_ _|refine blk_drew ?_|refine blk_alloc ?_ _));refine blk_put (cs:=#[.bool false,.slice none 0 0,.slice none 0 0]) ?_ 0 _ rfl;(with_reducible repeat (first|refine blk_drewN ?_ _|refine blk_drew ?_|refine blk_alloc ?_ _));exact BK254.out) Try.underlying46 rfl (by kernel_rfl)) rfl ?_
     exact ⟨_,_,by first|rfl|(simp [errW_none,errW_some] <;> rfl)|(simp [*,errW_none,errW_some] <;> rfl),by (with_reducible repeat (first|apply Kd.R_alloc|apply Kd.R_drewN|apply Kd.R_drew));exact Kd.R_mono (Kd.R_far (p:=⟨gb254,2,none⟩) (Kd.R_far (p:=⟨gb254,1,none⟩) (Kd.R_far (p:=⟨gb254,0,none⟩) (Kd.R_types HO_256001.out BK254.out (by decide)) (fun _ hk=>hk.2) (.bool a0_0)) (fun _ hk=>hk.2) (.slice Ao44 x256001_1.length co44)) (fun _ hk=>hk.2) (.slice Ao45 x256002_2.length co45)) (fun _ hk=>trivial),by (with_reducible repeat (first|apply Kd.R_alloc|apply Kd.R_drewN|apply Kd.R_drew));exact Kd.R_mono (Kd.R_far (p:=⟨gb254,2,none⟩) (Kd.R_far (p:=⟨gb254,1,none⟩) (Kd.R_far (p:=⟨gb254,0,none⟩) (Kd.R_types HO_256002.out BK254.out (by decide)) (fun _ hk=>hk.2) (.bool a0_0)) (fun _ hk=>hk.2) (.slice Ao44 x256001_1.length co44)) (fun _ hk=>hk.2) (.slice Ao45 x256002_2.length co45)) (fun _ hk=>trivial),by repeat (first|(with_reducible first|exact HB.out|apply below_alloc|apply pw_below_drewN|apply below_drew1|refine below_set ?_ GE253.out|refine below_set ?_ GE254.out|refine below_set ?_ GE255.out)|exact HB.out)⟩
end Go.Proofs.Ytpdnabhpkdchjaa.P
namespace Go.Proofs.Ytpdnabhpkdchjaa.P
open Go.RowKit Go.Proofs.YtpdnabhpkdchjaaW.PrintWords Go.Proofs.YtpdnabhpkdchjaaW.PrintLast Go.Proofs.YtpdnabhpkdchjaaW.PrintMore
set_option linter.unusedVariables false
set_option linter.unusedSimpArgs false
theorem secsFrom_at {l : List S88} {dd : List Bool} {ss : List S50} : ∀ (d i : Nat), secsFrom l dd ss d i = true → ∀ j, i ≤ j → j < i + d → secOk l dd (j : Int) (rd_T50 ss (j : Int)) = true := by
  intro d
  induction d with
  | zero => intro i h j h1 h2; omega
  | succ d ih =>
    intro i h j h1 h2
    simp only [secsFrom, Bool.and_eq_true] at h
    by_cases e : j = i
    · subst e; exact h.1
    · exact ih (i + 1) h.2 j (by omega) (by omega)
theorem secsFrom_of {l : List S88} {dd : List Bool} {ss : List S50} : ∀ (d i : Nat), (∀ j, i ≤ j → j < i + d → secOk l dd (j : Int) (rd_T50 ss (j : Int)) = true) → secsFrom l dd ss d i = true := by
  intro d
  induction d with
  | zero => intro i h; rfl
  | succ d ih =>
    intro i h
    simp only [secsFrom, Bool.and_eq_true]
    exact ⟨h i (Nat.le_refl _) (by omega), ih (i + 1) (fun j h1 h2 => h j (by omega) (by omega))⟩
theorem stateOk_of {n : Int} {l : List S88} {ok : Bool} {ss : List S50} {dd : List Bool} (h : stateOk n l ok ss dd = true) : layoutOk n l = 0 ∧ ok = true ∧ (ss.length : Int) = n ∧ dd.length = l.length ∧ ∀ j, j < ss.length → secOk l dd (j : Int) (rd_T50 ss (j : Int)) = true := by
  simp only [stateOk, Bool.and_eq_true, decide_eq_true_eq] at h
  exact ⟨h.1.1.1.1, h.1.1.1.2, h.1.1.2, h.1.2, fun j hj => secsFrom_at _ 0 h.2 j (by omega) (by omega)⟩
theorem stateOk_mk {n : Int} {l : List S88} {ok : Bool} {ss : List S50} {dd : List Bool} (h1 : layoutOk n l = 0) (h2 : ok = true) (h3 : (ss.length : Int) = n) (h4 : dd.length = l.length) (h5 : ∀ j, j < ss.length → secOk l dd (j : Int) (rd_T50 ss (j : Int)) = true) : stateOk n l ok ss dd = true := by
  simp only [stateOk, Bool.and_eq_true, decide_eq_true_eq]
  exact ⟨⟨⟨⟨h1, h2⟩, h3⟩, h4⟩, secsFrom_of _ 0 (fun j _ hj => h5 j (by omega))⟩
theorem secOk_told {l : List S88} {dd : List Bool} {s : Int} {x : S50} (h : secOk l dd s x = true) : x.f0 = toldC l dd s x := by
  simp only [secOk, Bool.and_eq_true, decide_eq_true_eq] at h
  exact h.1.2
theorem secOk_range {l : List S88} {dd : List Bool} {s : Int} {x : S50} (h : secOk l dd s x = true) : -1000000 ≤ x.f1 ∧ x.f1 ≤ 1000000 ∧ -1 ≤ x.f4 ∧ x.f4 ≤ 1 := by
  simp only [secOk, secRange, Bool.and_eq_true, decide_eq_true_eq] at h
  exact ⟨h.1.1.1.1.1, h.1.1.1.1.2, h.1.1.1.2, h.1.1.2⟩
theorem rd50_get (ss : List S50) (i : Nat) (h : i < ss.length) : rd_T50 ss (i : Int) = ss[i] := by simp [rd_T50, h]
theorem retold_same {l : List S88} {dd : List Bool} {ss : List S50} (h : ∀ j, j < ss.length → secOk l dd (j : Int) (rd_T50 ss (j : Int)) = true) : retold l dd ss = ss := by
  apply List.ext_getElem
  · exact retold_length _ _ _
  · intro i h1 h2
    simp only [retold, retoldTo, List.getElem_mapIdx, if_pos h2]
    have e := secOk_told (h i h2)
    rw [rd50_get ss i h2] at e
    unfold tellS
    rw [← e]
def midSecs2 (l : List S88) (ss : List S50) (dd : List Bool) (op of dir : Int) : List S50 := if doCode l ss dd op of = 0 then midSecs l ss op of dir else ss
theorem midSecs2_length (l : List S88) (ss : List S50) (dd : List Bool) (op of dir : Int) : (midSecs2 l ss dd op of dir).length = ss.length := by
  unfold midSecs2; split
  · exact midSecs_length _ _ _ _ _
  · rfl
theorem retold_mid {l : List S88} {dd : List Bool} {ss : List S50} {op of dir : Int} (h : ∀ j, j < ss.length → secOk l dd (j : Int) (rd_T50 ss (j : Int)) = true) : retold l (doDead l ss dd op of) (midSecs2 l ss dd op of dir) = doSecs l ss dd op of dir := by
  unfold doDead midSecs2 doSecs
  by_cases hc : doCode l ss dd op of = 0
  · rw [if_pos hc, if_pos hc, if_pos hc]
  · rw [if_neg hc, if_neg hc, if_neg hc, retold_same h]
theorem specCopy_l1 (b : Bool) (ss : List S50) (dd : List Bool) (hd : dd.length ≤ 1048576) (d : Nat) : ∀ i : Nat, i + d = dd.length → Ev (fun k => spec_l2copy.l1 k dd (dd.length : Int) (i : Int) b ss (dd.take i)) (b, ss, dd) := by
  induction d with
  | zero =>
    intro i hi
    refine Ev.step1 fun k => ?_
    simp only [spec_l2copy.l1]
    rw [if_neg (by omega), List.take_of_length_le (by omega)]
  | succ d ih =>
    intro i hi
    have hlt : i < dd.length := by omega
    have hr : rdOf false dd (i : Int) = dd[i] := by simp [rdOf, hlt]
    refine Ev.step (fun k => ?_) (ih (i + 1) (by omega))
    simp only [spec_l2copy.l1, hr, wrap_succ (show i < 9223372036854775807 by omega)]
    rw [if_pos (by omega), if_pos (by omega), if_pos (by omega), if_pos (by simp; omega), List.take_succ_eq_append_getElem hlt]
theorem specCopy_l0 (b : Bool) (ss : List S50) (dd : List Bool) (hs : ss.length ≤ 1048576) (hd : dd.length ≤ 1048576) (d : Nat) : ∀ i : Nat, i + d = ss.length → Ev (fun k => spec_l2copy.l0 k ss (ss.length : Int) (i : Int) b ss dd b (ss.take i)) (b, ss, dd) := by
  induction d with
  | zero =>
    intro i hi
    refine Ev.step (fun k => ?_) (specCopy_l1 b ss dd hd dd.length 0 (by omega))
    simp only [spec_l2copy.l0]
    rw [if_neg (by omega), List.take_of_length_le (by omega)]
    rfl
  | succ d ih =>
    intro i hi
    have hlt : i < ss.length := by omega
    refine Ev.step (fun k => ?_) (ih (i + 1) (by omega))
    simp only [spec_l2copy.l0, rd50_get ss i hlt, wrap_succ (show i < 9223372036854775807 by omega)]
    rw [if_pos (by omega), if_pos (by omega), if_pos (by omega), if_pos (by simp; omega), List.take_succ_eq_append_getElem hlt]
theorem specCopy_ev (b : Bool) (ss : List S50) (dd : List Bool) (hs : ss.length ≤ 1048576) (hd : dd.length ≤ 1048576) : Ev (fun k => spec_l2copy.f k b ss dd) (b, ss, dd) := by
  unfold spec_l2copy.f
  exact specCopy_l0 b ss dd hs hd ss.length 0 (by omega)
theorem copy_is {b : Bool} {A1 : Option Addr} {c1 : Nat} {ss : List S50} {A2 : Option Addr} {c2 : Nat} {dd : List Bool} {w : World} (hr1 : Kd.C k50 w A1 ss.length ss) (hc1 : ss.length ≤ c1) (hr2 : Kd.C Kd.bool w A2 dd.length dd) (hc2 : dd.length ≤ c2) (hs : ss.length ≤ 1048576) (hd : dd.length ≤ 1048576) :
    Calls Try.prog 93 #[.agg #[.bool b, .slice A1 ss.length c1, .slice A2 dd.length c2]] w fun e w' => ∃ v1_ v2_ : Value, e = .returned (.agg #[.bool b, v1_, v2_]) ∧ Kd.R k50 50 w' w.heap.size (fun _ => True) v1_ ss ∧ Kd.R Kd.bool 4 w' w.heap.size (fun _ => True) v2_ dd ∧ Below w.heap.size w w' := by
  obtain ⟨k, h⟩ := (specCopy_ev b ss dd hs hd).rounds
  exact spec_l2copy.calls k b A1 c1 ss A2 c2 dd b ss dd w hr1 hc1 hr2 hc2 h
end Go.Proofs.Ytpdnabhpkdchjaa.P
namespace Go.Proofs.Ytpdnabhpkdchjaa.P
open Go.RowKit Go.Proofs.YtpdnabhpkdchjaaW.PrintWords Go.Proofs.YtpdnabhpkdchjaaW.PrintLast Go.Proofs.YtpdnabhpkdchjaaW.PrintMore
set_option linter.unusedVariables false
def runStep (n : Int) (l : List S88) (s : S46) (e : S56) : S48 :=
  if eventOk n l e.f0 e.f1 e.f2 = true then ⟨doCode l s.f1 s.f2 e.f0 e.f1, ⟨true, doSecs l s.f1 s.f2 e.f0 e.f1 e.f2, doDead l s.f1 s.f2 e.f0 e.f1⟩⟩ else ⟨1, ⟨true, s.f1, s.f2⟩⟩
def st0 (n : Int) (l : List S88) : S46 := ⟨true, List.replicate n.toNat z50, List.replicate l.length false⟩
def stAt (n : Int) (l : List S88) (es : List S56) (k : Nat) : S46 := (es.take k).foldl (fun s e => (runStep n l s e).f1) (st0 n l)
def runTo (n : Int) (l : List S88) (es : List S56) (k : Nat) : List S48 := (List.range k).map fun j => runStep n l (stAt n l es j) (rd_T56 es (j : Int))
def run (n : Int) (l : List S88) (es : List S56) : List S48 := if layoutOk n l = 0 ∧ es.length ≤ 2000 then runTo n l es es.length else []
theorem runTo_length (n : Int) (l : List S88) (es : List S56) (k : Nat) : (runTo n l es k).length = k := by simp [runTo]
theorem runTo_succ (n : Int) (l : List S88) (es : List S56) (k : Nat) : runTo n l es (k + 1) = runTo n l es k ++ [runStep n l (stAt n l es k) (rd_T56 es (k : Int))] := by
  simp [runTo, List.range_succ]
theorem stAt_succ (n : Int) (l : List S88) (es : List S56) (k : Nat) (h : k < es.length) : stAt n l es (k + 1) = (runStep n l (stAt n l es k) (rd_T56 es (k : Int))).f1 := by
  rw [stAt, List.take_succ_eq_append_getElem h, List.foldl_append, rd56 es k h]
  rfl
theorem stAt_zero (n : Int) (l : List S88) (es : List S56) : stAt n l es 0 = st0 n l := by simp [stAt]
theorem runStep_len (n : Int) (l : List S88) (s : S46) (e : S56) : (runStep n l s e).f1.f1.length = s.f1.length ∧ (runStep n l s e).f1.f2.length = s.f2.length ∧ (runStep n l s e).f1.f0 = true := by
  unfold runStep
  split
  · exact ⟨doSecs_length _ _ _ _ _ _, doDead_length _ _ _ _ _, rfl⟩
  · exact ⟨rfl, rfl, rfl⟩
theorem stAt_len (n : Int) (l : List S88) (es : List S56) (k : Nat) : (stAt n l es k).f1.length = n.toNat ∧ (stAt n l es k).f2.length = l.length ∧ (stAt n l es k).f0 = true := by
  unfold stAt
  have h : ∀ (es : List S56) (s : S46), s.f1.length = n.toNat ∧ s.f2.length = l.length ∧ s.f0 = true → (es.foldl (fun s e => (runStep n l s e).f1) s).f1.length = n.toNat ∧ (es.foldl (fun s e => (runStep n l s e).f1) s).f2.length = l.length ∧ (es.foldl (fun s e => (runStep n l s e).f1) s).f0 = true := by
    intro es
    induction es with
    | nil => intro s h; exact h
    | cons e es ih =>
      intro s h
      have := runStep_len n l s e
      exact ih _ ⟨by rw [this.1]; exact h.1, by rw [this.2.1]; exact h.2.1, this.2.2⟩
  exact h _ _ ⟨by simp [st0], by simp [st0], rfl⟩
def secFine (l : List S88) (dd : List Bool) (s : Int) (x : S50) : Bool := secRange x && secRest (deadAt l dd s) x
theorem fine_iff (l : List S88) (dd : List Bool) (s : Int) (x : S50) : secFine l dd s x = true ↔ (-1000000 ≤ x.f1 ∧ x.f1 ≤ 1000000 ∧ -1 ≤ x.f4 ∧ x.f4 ≤ 1) ∧ ((x.f1 < 0 ∨ deadAt l dd s = true) → x.f2 = true) ∧ (x.f3 = true ∧ x.f1 = 0 ∧ x.f4 = -1 → x.f2 = true) := by
  simp only [secFine, secRange, secRest, Bool.and_eq_true, decide_eq_true_eq, Bool.not_eq_true', Bool.and_eq_false_iff, Bool.or_eq_false_iff, Bool.not_eq_false', decide_eq_false_iff_not]
  cases x.f2 <;> cases x.f3 <;> cases deadAt l dd s <;> simp <;> omega
theorem ok_iff (l : List S88) (dd : List Bool) (s : Int) (x : S50) : secOk l dd s x = true ↔ x.f0 = toldC l dd s x ∧ secFine l dd s x = true := by
  simp only [secOk, secFine, Bool.and_eq_true, decide_eq_true_eq]
  exact ⟨fun h => ⟨h.1.2, h.1.1, h.2⟩, fun h => ⟨⟨h.2.1, h.1⟩, h.2.2⟩⟩
theorem tell_ok {l : List S88} {dd : List Bool} {i : Nat} {x : S50} (h : secFine l dd (i : Int) x = true) : secOk l dd (i : Int) (tellS l dd i x) = true := by
  rw [ok_iff]
  exact ⟨rfl, h⟩
theorem retold_get (l : List S88) (dd : List Bool) (ss : List S50) (i : Nat) (h : i < ss.length) : rd_T50 (retold l dd ss) (i : Int) = tellS l dd i (rd_T50 ss (i : Int)) := by
  simp [rd_T50, retold, retoldTo, h]
theorem retold_fine {l : List S88} {dd : List Bool} {ss : List S50} (h : ∀ j, j < ss.length → secFine l dd (j : Int) (rd_T50 ss (j : Int)) = true) : ∀ j, j < (retold l dd ss).length → secOk l dd (j : Int) (rd_T50 (retold l dd ss) (j : Int)) = true := by
  intro j hj
  rw [retold_length] at hj
  rw [retold_get l dd ss j hj]
  exact tell_ok (h j hj)
theorem count_fine {l : List S88} {dd : List Bool} {s : Int} {x : S50} {b : Int} (hb : b = 1 ∨ b = -1) (h : secFine l dd s x = true) : secFine l dd s (countS x b) = true := by
  rw [fine_iff] at h ⊢
  obtain ⟨⟨h1, h2, h3, h4⟩, h5, h6⟩ := h
  have hc : -1000000 ≤ cntN x b ∧ cntN x b ≤ 1000000 := by
    unfold cntN
    split
    · rename_i h; exact h
    · exact ⟨h1, h2⟩
  simp only [countS]
  refine ⟨⟨hc.1, hc.2, by omega, by omega⟩, fun h => ?_, fun h => ?_⟩
  · rcases h with h | h
    · rw [decide_eq_true h, Bool.or_true]
    · rw [h5 (.inr h), Bool.true_or]
  · obtain ⟨k1, k2, k3⟩ := h
    rw [k2, k3] at k1
    simp at k1
theorem addS_get (ss : List S50) (s b : Int) (j : Nat) (hj : j < ss.length) : rd_T50 (addS ss s b) (j : Int) = if s = (j : Int) then countS (rd_T50 ss (j : Int)) b else rd_T50 ss (j : Int) := by
  unfold addS
  by_cases h : s < 0
  · rw [if_pos h, if_neg (by omega)]
  · rw [if_neg h]
    by_cases e : s = (j : Int)
    · subst e
      simp [rd_T50, hj]
    · have : s.toNat ≠ j := by omega
      rw [if_neg e]
      simp [rd_T50, List.getElem?_set_ne this]
theorem loseAt_get (ss : List S50) (s : Int) (j : Nat) (hj : j < ss.length) : rd_T50 (loseAt ss s) (j : Int) = if s = (j : Int) then loseS (rd_T50 ss (j : Int)) else rd_T50 ss (j : Int) := by
  unfold loseAt
  by_cases h : s < 0
  · rw [if_pos h, if_neg (by omega)]
  · rw [if_neg h]
    by_cases e : s = (j : Int)
    · subst e
      simp [rd_T50, hj]
    · have : s.toNat ≠ j := by omega
      rw [if_neg e]
      simp [rd_T50, List.getElem?_set_ne this]
theorem add_fine {l : List S88} {dd : List Bool} {ss : List S50} {s b : Int} (hb : b = 1 ∨ b = -1) (h : ∀ j, j < ss.length → secFine l dd (j : Int) (rd_T50 ss (j : Int)) = true) : ∀ j, j < (addS ss s b).length → secFine l dd (j : Int) (rd_T50 (addS ss s b) (j : Int)) = true := by
  intro j hj
  rw [addS_length] at hj
  rw [addS_get ss s b j hj]
  split
  · exact count_fine hb (h j hj)
  · exact h j hj
theorem deadFrom_mono {l : List S88} {dd dd' : List Bool} {s : Int} (h : ∀ i : Nat, rdOf false dd' (i : Int) = true → hits s (rd_T88 l (i : Int)) = true → rdOf false dd (i : Int) = true) : ∀ d i, deadFrom l dd' s d i = true → deadFrom l dd s d i = true := by
  intro d
  induction d with
  | zero => intro i hd; exact hd
  | succ d ih =>
    intro i hd
    simp only [deadFrom, Bool.or_eq_true, Bool.and_eq_true] at hd ⊢
    rcases hd with ⟨h1, h2⟩ | h1
    · exact .inl ⟨h i h1 h2, h2⟩
    · exact .inr (ih _ h1)
theorem rdOf_set (dd : List Bool) (k i : Nat) (b : Bool) : rdOf false (dd.set k b) (i : Int) = if k = i ∧ i < dd.length then b else rdOf false dd (i : Int) := by
  unfold rdOf
  simp only [Int.toNat_natCast, List.getD_eq_getElem?_getD, List.getElem?_set]
  by_cases e : k = i
  · subst e
    by_cases h : k < dd.length
    · simp [h]
    · simp [h]
  · simp [e]
theorem dead_less {l : List S88} {dd : List Bool} {s : Int} {k : Nat} (h : deadAt l (dd.set k false) s = true) : deadAt l dd s = true := by
  refine deadFrom_mono (fun i h1 _ => ?_) _ _ h
  rw [rdOf_set] at h1
  split at h1
  · cases h1
  · exact h1
theorem dead_more {l : List S88} {dd : List Bool} {s : Int} {k : Nat} (h : deadAt l (dd.set k true) s = true) (hn : hits s (rd_T88 l (k : Int)) = false) : deadAt l dd s = true := by
  refine deadFrom_mono (fun i h1 h2 => ?_) _ _ h
  rw [rdOf_set] at h1
  split at h1
  · rename_i e
    rw [← e.1, hn] at h2
    cases h2
  · exact h1
theorem lose_fine {l : List S88} {dd dd' : List Bool} {s : Int} {x : S50} (h : secFine l dd s x = true) : secFine l dd' s (loseS x) = true := by
  rw [fine_iff] at h ⊢
  exact ⟨h.1, fun _ => rfl, fun _ => rfl⟩
theorem fine_dead {l : List S88} {dd dd' : List Bool} {s : Int} {x : S50} (hd : deadAt l dd' s = true → deadAt l dd s = true) (h : secFine l dd s x = true) : secFine l dd' s x = true := by
  rw [fine_iff] at h ⊢
  exact ⟨h.1, fun k => h.2.1 (k.imp id hd), h.2.2⟩
theorem do_fine {n : Int} {l : List S88} {ss : List S50} {dd : List Bool} {op of dir : Int} (hl : layoutOk n l = 0) (hd : dd.length = l.length) (h : ∀ j, j < ss.length → secFine l dd (j : Int) (rd_T50 ss (j : Int)) = true) (hev : eventOk n l op of dir = true) (hc : doCode l ss dd op of = 0) :
    ∀ j, j < (midSecs l ss op of dir).length → secFine l (midDead dd op of) (j : Int) (rd_T50 (midSecs l ss op of dir) (j : Int)) = true := by
  have key : ((op = 1 ∨ op = 2) ∧ 0 ≤ of ∧ of < (l.length : Int)) ∨ ((op = 3 ∨ op = 4) ∧ 0 ≤ of ∧ of < (l.length : Int)) ∨ (op = 5 ∧ 0 ≤ of ∧ of < n) := by
    unfold eventOk at hev
    rw [if_pos hl] at hev
    split at hev
    · rename_i h1; simp at hev; exact .inl ⟨h1, hev.1.1, hev.1.2⟩
    · split at hev
      · rename_i h1; simp at hev; exact .inr (.inl ⟨h1, hev.1.1, hev.1.2⟩)
      · split at hev
        · rename_i h1; simp at hev; exact .inr (.inr ⟨h1, hev.1.1, hev.1.2⟩)
        · cases hev
  rcases key with ⟨rfl | rfl, o0, o1⟩ | ⟨rfl | rfl, o0, o1⟩ | ⟨rfl, o0, o1⟩
  · have e1 : midSecs l ss 1 of dir = addS (addS ss (if dir = -1 then (rd_T88 l of).f1 else (rd_T88 l of).f0) (-1)) (if dir = -1 then (rd_T88 l of).f0 else (rd_T88 l of).f1) 1 := by simp [midSecs]
    have e2 : midDead dd 1 of = dd := by simp [midDead]
    rw [e1, e2]
    exact add_fine (.inl rfl) (add_fine (.inr rfl) h)
  · have e1 : midSecs l ss 2 of dir = addS ss (if dir = -1 then (rd_T88 l of).f0 else (rd_T88 l of).f1) 1 := by simp [midSecs]
    have e2 : midDead dd 2 of = dd := by simp [midDead]
    rw [e1, e2]
    exact add_fine (.inl rfl) h
  · have e1 : midSecs l ss 3 of dir = loseAt (loseAt ss (rd_T88 l of).f0) (rd_T88 l of).f1 := by simp [midSecs]
    have e2 : midDead dd 3 of = dd.set of.toNat true := by simp [midDead]
    rw [e1, e2]
    intro j hj
    rw [loseAt_length, loseAt_length] at hj
    rw [loseAt_get _ _ _ (by rw [loseAt_length]; exact hj), loseAt_get _ _ _ hj]
    by_cases f1 : (rd_T88 l of).f1 = (j : Int)
    · rw [if_pos f1]
      split
      · exact lose_fine (lose_fine (dd' := dd) (h j hj))
      · exact lose_fine (h j hj)
    · rw [if_neg f1]
      by_cases f0 : (rd_T88 l of).f0 = (j : Int)
      · rw [if_pos f0]; exact lose_fine (h j hj)
      · rw [if_neg f0]
        refine fine_dead (fun hx => dead_more hx ?_) (h j hj)
        rw [show ((of.toNat : Nat) : Int) = of by omega]
        simp [hits, f0, f1]
  · have e1 : midSecs l ss 4 of dir = ss := by simp [midSecs]
    have e2 : midDead dd 4 of = dd.set of.toNat false := by simp [midDead]
    rw [e1, e2]
    intro j hj
    exact fine_dead dead_less (h j hj)
  · have e1 : midSecs l ss 5 of dir = ss.set of.toNat ⟨0, 0, false, true, 0⟩ := by simp [midSecs]
    have e2 : midDead dd 5 of = dd := by simp [midDead]
    rw [e1, e2]
    intro j hj
    rw [List.length_set] at hj
    by_cases e : of.toNat = j
    · have hdd : deadAt l dd of = false := by
        cases hx : deadAt l dd of with
        | false => rfl
        | true =>
          rw [doCode, if_neg (by decide), if_pos rfl, if_pos hx] at hc
          exact absurd hc (by decide)
      have e3 : ((j : Nat) : Int) = of := by omega
      rw [show rd_T50 (ss.set of.toNat ⟨0, 0, false, true, 0⟩) (j : Int) = ⟨0, 0, false, true, 0⟩ by subst e; rw [rd_T50, Int.toNat_natCast]; simp [hj], e3, fine_iff]
      refine ⟨by simp, fun h => ?_, fun h => by simp at h⟩
      rw [hdd] at h
      simp at h
    · rw [show rd_T50 (ss.set of.toNat ⟨0, 0, false, true, 0⟩) (j : Int) = rd_T50 ss (j : Int) by simp [rd_T50, List.getElem?_set_ne e]]
      exact h j hj
theorem do_ok {n : Int} {l : List S88} {ss : List S50} {dd : List Bool} {op of dir : Int} (hl : layoutOk n l = 0) (hd : dd.length = l.length) (h : ∀ j, j < ss.length → secOk l dd (j : Int) (rd_T50 ss (j : Int)) = true) (hev : eventOk n l op of dir = true) :
    ∀ j, j < (doSecs l ss dd op of dir).length → secOk l (doDead l ss dd op of) (j : Int) (rd_T50 (doSecs l ss dd op of dir) (j : Int)) = true := by
  by_cases hc : doCode l ss dd op of = 0
  · unfold doSecs doDead
    rw [if_pos hc, if_pos hc]
    exact retold_fine (do_fine hl hd (fun j hj => ((ok_iff _ _ _ _).1 (h j hj)).2) hev hc)
  · unfold doSecs doDead
    rw [if_neg hc, if_neg hc]
    exact h
theorem step_ok {n : Int} {l : List S88} {s : S46} {e : S56} (h : stateOk n l s.f0 s.f1 s.f2 = true) : stateOk n l (runStep n l s e).f1.f0 (runStep n l s e).f1.f1 (runStep n l s e).f1.f2 = true := by
  obtain ⟨hl, ho, hn, hd, hsec⟩ := stateOk_of h
  unfold runStep
  split
  · rename_i hev
    exact stateOk_mk hl rfl (by rw [doSecs_length]; exact hn) (by rw [doDead_length]; exact hd) (do_ok hl hd hsec hev)
  · exact stateOk_mk hl rfl hn hd hsec
theorem anyFalse (l : List S88) (m : Nat) (s : Int) : deadAt l (List.replicate m false) s = false := by
  have h : ∀ d i, deadFrom l (List.replicate m false) s d i = false := by
    intro d
    induction d with
    | zero => intro i; rfl
    | succ d ih =>
      intro i
      have hr : rdOf false (List.replicate m false) (i : Int) = false := by
        simp only [rdOf, List.getD_eq_getElem?_getD, List.getElem?_replicate]; split <;> rfl
      simp only [deadFrom, hr, ih, Bool.false_and, Bool.or_self]
  exact h _ _
theorem st0_ok {n : Int} {l : List S88} (hl : layoutOk n l = 0) : stateOk n l (st0 n l).f0 (st0 n l).f1 (st0 n l).f2 = true := by
  have hn := lay_n hl
  refine stateOk_mk hl rfl (by simp [st0]; omega) (by simp [st0]) (fun j hj => ?_)
  have hz : rd_T50 (List.replicate n.toNat z50) (j : Int) = z50 := by
    simp only [rd_T50, List.getD_eq_getElem?_getD, List.getElem?_replicate]; split <;> rfl
  show secOk l (List.replicate l.length false) (j : Int) (rd_T50 (List.replicate n.toNat z50) (j : Int)) = true
  rw [hz, ok_iff, fine_iff, toldC, anyFalse]
  simp [z50]
theorem stAt_ok {n : Int} {l : List S88} (hl : layoutOk n l = 0) (es : List S56) (k : Nat) : stateOk n l (stAt n l es k).f0 (stAt n l es k).f1 (stAt n l es k).f2 = true := by
  unfold stAt
  have h : ∀ (es : List S56) (s : S46), stateOk n l s.f0 s.f1 s.f2 = true → stateOk n l (es.foldl (fun s e => (runStep n l s e).f1) s).f0 (es.foldl (fun s e => (runStep n l s e).f1) s).f1 (es.foldl (fun s e => (runStep n l s e).f1) s).f2 = true := by
    intro es
    induction es with
    | nil => intro s h; exact h
    | cons e es ih => intro s h; exact ih _ (step_ok h)
  exact h _ _ (st0_ok hl)
end Go.Proofs.Ytpdnabhpkdchjaa.P
namespace Go.Proofs.Ytpdnabhpkdchjaa.P
open Go.RowKit Go.Proofs.YtpdnabhpkdchjaaW.PrintWords Go.Proofs.YtpdnabhpkdchjaaW.PrintLast Go.Proofs.YtpdnabhpkdchjaaW.PrintMore
attribute [local go_sem] max2_int min2_int max_two min_two max_three min_three max_four min_four
set_option linter.unusedVariables false
set_option linter.unusedSimpArgs false
def IsS116 (w0 W:World) (g:Nat) (f0:List Int) (f1:Int) (f2:Int):Prop:=∃ A0 c0,W.heap[g]?=some (.cells #[.slice A0 f0.length c0,.int .i64 f1,.int .u64 f2] 116 (0,0))∧w0.heap.size≤g∧Kd.C (Kd.int .u8) w0 A0 f0.length f0
theorem IsS116.grown {w0 W:World} {g:Nat} {f0:List Int} {f1:Int} {f2:Int} {W1:World} {row:Option Nat} (h:IsS116 w0 W g f0 f1 f2) (hw:W.grownBy W1 row) (hne:some g ≠ row):IsS116 w0 W1 g f0 f1 f2:=by
 obtain ⟨A0,c0,hb,hg,hr0⟩:=h
 exact ⟨A0,c0,blk_grown hb hw hne,hg,hr0⟩
theorem IsS116.kept {w0 W:World} {g:Nat} {f0:List Int} {f1:Int} {f2:Int} {W1:World} {S:Nat→Prop} (h:IsS116 w0 W g f0 f1 f2) (hk:Kept W W1 S) (hne:¬ S g):IsS116 w0 W1 g f0 f1 f2:=by
 obtain ⟨A0,c0,hb,hg,hr0⟩:=h
 exact ⟨A0,c0,blk_kept hb hk hne,hg,hr0⟩
theorem IsS116.below {w0 W:World} {g:Nat} {f0:List Int} {f1:Int} {f2:Int} {W1:World} (h:IsS116 w0 W g f0 f1 f2) (hw:Below W.heap.size W W1):IsS116 w0 W1 g f0 f1 f2:=h.grown (grown_of_below hw none) (by simp)
theorem IsS116.alloc {w0 W:World} {g:Nat} {f0:List Int} {f1:Int} {f2:Int} (h:IsS116 w0 W g f0 f1 f2) (o:Obj):IsS116 w0 (W.alloc o) g f0 f1 f2:=h.below (below_alloc (Below.refl _ _) o)
theorem IsS116.drewN {w0 W:World} {g:Nat} {f0:List Int} {f1:Int} {f2:Int} (h:IsS116 w0 W g f0 f1 f2) (m:Nat):IsS116 w0 (W.drewN m) g f0 f1 f2:=h
theorem IsS116.drew {w0 W:World} {g:Nat} {f0:List Int} {f1:Int} {f2:Int} (h:IsS116 w0 W g f0 f1 f2):IsS116 w0 W.drew g f0 f1 f2:=h
theorem IsS116.at_ {w0 W:World} {g:Nat} {f0:List Int} {f1:Int} {f2:Int} {w':World} {m:Nat} (hq:W.drewN m=w') (h:IsS116 w0 W g f0 f1 f2):IsS116 w0 w' g f0 f1 f2:=by subst hq;exact IsS116.drewN h m
theorem IsS116.apart {w0 W:World} {g:Nat} {f0:List Int} {f1:Int} {f2:Int} {α:Type} {d:Kd α} {e:Nat} {base:Nat} {ok:Nat→Prop} {v:Value} {xs:List α} (h:IsS116 w0 W g f0 f1 f2) (ho:d.R e W base ok v xs) (ht:∀ q,q ∈ e :: d.E→q ≠ 116):d.R e W base (fun k=>ok k∧k ≠ g) v xs:=by
 obtain ⟨A0,c0,hb,hg,hr0⟩:=h
 exact Kd.R_types ho hb ht
theorem IsS116.own_ne {w0 W:World} {g:Nat} {f0:List Int} {f1:Int} {f2:Int} {α:Type} {d:Kd α} {e:Nat} {base:Nat} {ok:Nat→Prop} {v:Value} {xs:List α} (h:IsS116 w0 W g f0 f1 f2) (ho:d.R e W base ok v xs) (ht:e ≠ 116):some g ≠ v.ownBlock:=by
 obtain ⟨A0,c0,hb,hg,hr0⟩:=h
 exact Kd.R_ne ho hb ht
theorem IsS116.ge {w0 W:World} {g:Nat} {f0:List Int} {f1:Int} {f2:Int} (h:IsS116 w0 W g f0 f1 f2):w0.heap.size≤g:=by
 obtain ⟨A0,c0,hb,hg,hr0⟩:=h
 exact hg
end Go.Proofs.Ytpdnabhpkdchjaa.P
namespace Go.Proofs.Ytpdnabhpkdchjaa.P
open Go.RowKit Go.Proofs.YtpdnabhpkdchjaaW.PrintWords Go.Proofs.YtpdnabhpkdchjaaW.PrintLast Go.Proofs.YtpdnabhpkdchjaaW.PrintMore
set_option linter.unusedVariables false
set_option linter.unusedSimpArgs false
structure CurOk (code : List Int) (b : Int) (c : Int × Int) : Prop where
  bytes : ∀ x ∈ code, 0 ≤ x ∧ x < 256
  lo : 0 ≤ c.1
  hi : c.1 ≤ b
theorem CurOk.mono {code : List Int} {b b' : Int} {c : Int × Int} (h : CurOk code b c) (hb : b ≤ b') : CurOk code b' c := ⟨h.bytes, h.lo, Int.le_trans h.hi hb⟩
theorem tmod_in {x m : Int} (hx : 0 ≤ x) (hm : 0 < m) : 0 ≤ Int.tmod x m ∧ Int.tmod x m < m := by
  rw [Int.tmod_eq_emod_of_nonneg hx]
  exact ⟨Int.emod_nonneg _ (by omega), Int.emod_lt_of_pos _ hm⟩
end Go.Proofs.Ytpdnabhpkdchjaa.P
namespace Go.Proofs.Ytpdnabhpkdchjaa.P
open Go.RowKit Go.Proofs.YtpdnabhpkdchjaaW.PrintWords Go.Proofs.YtpdnabhpkdchjaaW.PrintLast Go.Proofs.YtpdnabhpkdchjaaW.PrintMore
set_option linter.unusedVariables false
structure EvP where
  c : Int × Int
  th : List Int
  dead : Int
  out : List S56
end Go.Proofs.Ytpdnabhpkdchjaa.P
namespace Go.Proofs.Ytpdnabhpkdchjaa.P
open Go.RowKit Go.Proofs.YtpdnabhpkdchjaaW.PrintWords Go.Proofs.YtpdnabhpkdchjaaW.PrintLast
set_option linter.unusedVariables false
set_option linter.unusedSimpArgs false
def nonneg (row : List Int) : Bool := row.all fun x => decide (0 ≤ x)
end Go.Proofs.Ytpdnabhpkdchjaa.P
namespace Go.Proofs.Ytpdnabhpkdchjaa.P
open Go.RowKit Go.Proofs.YtpdnabhpkdchjaaW.PrintWords Go.Proofs.YtpdnabhpkdchjaaW.PrintLast Go.Proofs.YtpdnabhpkdchjaaW.PrintMore
set_option linter.unusedVariables false
set_option linter.unusedSimpArgs false
section
variable {code : List Int} {n : Int} {l : List S88} {ho : Bool}
theorem truthAt_app (es : List S56) (e : S56) (k : Nat) (h : k ≤ es.length) : truthAt n l (es ++ [e]) k = truthAt n l es k := by
  rw [truthAt, truthAt, List.take_append_of_le_length h]
theorem truthAt_last (es : List S56) (e : S56) : truthAt n l (es ++ [e]) (es ++ [e]).length = tstep n l (truthAt n l es es.length) e := by
  rw [truthAt, truthAt, List.take_length, List.take_length, List.foldl_append]
  rfl
def HonP (n : Int) (l : List S88) (es : List S56) : Prop := ∀ k : Nat, k < es.length → ((rd_T56 es (k : Int)).f0 = 5 → rd (truthAt n l es k) (rd_T56 es (k : Int)).f1 = 0) ∧ nonneg (truthAt n l es (k + 1)) = true
theorem rd56_app_lt (es : List S56) (e : S56) (k : Nat) (h : k < es.length) : rd_T56 (es ++ [e]) (k : Int) = rd_T56 es (k : Int) := by
  rw [rd56 _ k (by simp; omega), rd56 _ k h, List.getElem_append_left h]
theorem rd56_app_eq (es : List S56) (e : S56) : rd_T56 (es ++ [e]) (es.length : Int) = e := by
  rw [rd56 _ es.length (by simp)]; simp
theorem HonP.app {es : List S56} {e : S56} (h : HonP n l es) (h5 : e.f0 = 5 → rd (truthAt n l es es.length) e.f1 = 0) (hn : nonneg (tstep n l (truthAt n l es es.length) e) = true) : HonP n l (es ++ [e]) := by
  intro k hk
  rw [List.length_append, List.length_singleton] at hk
  by_cases e1 : k < es.length
  · rw [rd56_app_lt es e k e1, truthAt_app es e k (by omega), truthAt_app es e (k + 1) (by omega)]
    exact h k e1
  · have : k = es.length := by omega
    subst this
    rw [rd56_app_eq, truthAt_app es e _ (Nat.le_refl _)]
    refine ⟨h5, ?_⟩
    have := truthAt_last (n := n) (l := l) es e
    rw [List.length_append, List.length_singleton] at this
    rw [this]
    exact hn
structure EvI (n : Int) (l : List S88) (ho : Bool) (s : EvP) : Prop where
  th : s.th = truthAt n l s.out s.out.length
  dead0 : -1 ≤ s.dead
  dead1 : s.dead < (l.length : Int)
  ok : ∀ e ∈ s.out, eventOk n l e.f0 e.f1 e.f2 = true
  bd : ∀ j : Nat, -(s.out.length : Int) ≤ rd s.th (j : Int) ∧ rd s.th (j : Int) ≤ (s.out.length : Int)
  hon : ho = true → HonP n l s.out ∧ nonneg s.th = true
theorem EvI.skip {s : EvP} (h : EvI n l ho s) (c : Int × Int) (d : Int) (h0 : -1 ≤ d) (h1 : d < (l.length : Int)) : EvI n l ho ⟨c, s.th, d, s.out⟩ := ⟨h.th, h0, h1, h.ok, h.bd, h.hon⟩
theorem mem_snoc {e x : S56} {es : List S56} (h : x ∈ es ++ [e]) : x ∈ es ∨ x = e := by simpa using h
theorem EvI.add {s : EvP} (h : EvI n l ho s) (c : Int × Int) (d : Int) (h0 : -1 ≤ d) (h1 : d < (l.length : Int)) (e : S56) (hok : eventOk n l e.f0 e.f1 e.f2 = true) (hne : e.f0 ≠ 1) (h5 : ho = true → e.f0 = 5 → rd s.th e.f1 = 0) :
    EvI n l ho ⟨c, s.th, d, s.out ++ [e]⟩ := by
  have ht : tstep n l s.th e = s.th := by
    unfold tstep isPass
    rw [decide_eq_false hne, Bool.and_false]; rfl
  have hl := truthAt_last (n := n) (l := l) s.out e
  rw [← h.th, ht] at hl
  refine ⟨hl.symm, h0, h1, fun x hx => ?_, fun j => ?_, fun hh => ?_⟩
  · rcases mem_snoc hx with hx | rfl
    · exact h.ok x hx
    · exact hok
  · have := h.bd j
    simp only [List.length_append, List.length_singleton]
    exact ⟨by omega, by omega⟩
  · obtain ⟨k1, k2⟩ := h.hon hh
    refine ⟨k1.app (fun q => by rw [← h.th]; exact h5 hh q) (by rw [← h.th, ht]; exact k2), k2⟩
theorem ok12 (hl0 : layoutOk n l = 0) {op k d : Int} (ho : op = 1 ∨ op = 2) (h0 : 0 ≤ k) (h1 : k < (l.length : Int)) (hd : d = 1 ∨ d = -1) : eventOk n l op k d = true := by
  unfold eventOk
  rw [if_pos hl0, if_pos ho, decide_eq_true h0, decide_eq_true h1]
  rcases hd with rfl | rfl <;> rfl
theorem ok34 (hl0 : layoutOk n l = 0) {op k : Int} (ho : op = 3 ∨ op = 4) (h0 : 0 ≤ k) (h1 : k < (l.length : Int)) : eventOk n l op k 0 = true := by
  unfold eventOk
  rw [if_pos hl0, if_neg (by omega), if_pos ho, decide_eq_true h0, decide_eq_true h1]
  rfl
theorem ok5 (hl0 : layoutOk n l = 0) {k : Int} (h0 : 0 ≤ k) (h1 : k < n) : eventOk n l 5 k 0 = true := by
  unfold eventOk
  rw [if_pos hl0, if_neg (by omega), if_neg (by omega), if_pos rfl, decide_eq_true h0, decide_eq_true h1]
  rfl
end
end Go.Proofs.Ytpdnabhpkdchjaa.P
namespace Go.Proofs.Ytpdnabhpkdchjaa.P
open Go.RowKit Go.Proofs.YtpdnabhpkdchjaaW.PrintWords Go.Proofs.YtpdnabhpkdchjaaW.PrintLast Go.Proofs.YtpdnabhpkdchjaaW.PrintMore
set_option linter.unusedVariables false
set_option linter.unusedSimpArgs false
theorem rd_runTo (n : Int) (l : List S88) (es : List S56) (m i : Nat) (h : i < m) : rd_T48 (runTo n l es m) (i : Int) = runStep n l (stAt n l es i) (rd_T56 es (i : Int)) := by
  simp [rd_T48, runTo, h]
end Go.Proofs.Ytpdnabhpkdchjaa.P
namespace Go.Proofs.Ytpdnabhpkdchjaa.P
open Go.RowKit Go.Proofs.YtpdnabhpkdchjaaW.PrintWords Go.Proofs.YtpdnabhpkdchjaaW.PrintLast Go.Proofs.YtpdnabhpkdchjaaW.PrintMore
set_option linter.unusedVariables false
set_option linter.unusedSimpArgs false
section
variable {n : Int} {l : List S88} {es : List S56}
def midAt (l : List S88) (op of dir : Int) (j : Nat) (x : S50) : S50 :=
  let c := rd_T88 l of
  let f := if dir = -1 then c.f1 else c.f0
  let t := if dir = -1 then c.f0 else c.f1
  if op = 1 then (if f = (j : Int) then countS x (-1) else if t = (j : Int) then countS x 1 else x)
  else if op = 2 then (if t = (j : Int) then countS x 1 else x)
  else if op = 3 then (if c.f0 = (j : Int) ∨ c.f1 = (j : Int) then loseS x else x)
  else if op = 5 then (if of = (j : Int) then ⟨0, 0, false, true, 0⟩ else x) else x
theorem mid_get (ss : List S50) (op of dir : Int) (hne : op = 1 ∨ op = 3 → (rd_T88 l of).f0 ≠ (rd_T88 l of).f1) (h0 : 0 ≤ of) (j : Nat) (hj : j < ss.length) : rd_T50 (midSecs l ss op of dir) (j : Int) = midAt l op of dir j (rd_T50 ss (j : Int)) := by
  unfold midSecs midAt
  simp only []
  by_cases h1 : op = 1
  · have hn := hne (.inl h1)
    rw [if_pos h1, if_pos h1, addS_get _ _ _ j (by rw [addS_length]; exact hj), addS_get _ _ _ j hj]
    by_cases hd : dir = -1
    · simp only [if_pos hd]
      by_cases e1 : (rd_T88 l of).f1 = (j : Int)
      · rw [if_pos e1, if_pos e1, if_neg (by omega)]
      · rw [if_neg e1, if_neg e1]
    · simp only [if_neg hd]
      by_cases e1 : (rd_T88 l of).f0 = (j : Int)
      · rw [if_pos e1, if_pos e1, if_neg (by omega)]
      · rw [if_neg e1, if_neg e1]
  · rw [if_neg h1, if_neg h1]
    by_cases h2 : op = 2
    · rw [if_pos h2, if_pos h2, addS_get _ _ _ j hj]
    · rw [if_neg h2, if_neg h2]
      by_cases h3 : op = 3
      · have hn := hne (.inr h3)
        rw [if_pos h3, if_pos h3, loseAt_get _ _ j (by rw [loseAt_length]; exact hj), loseAt_get _ _ j hj]
        by_cases e1 : (rd_T88 l of).f1 = (j : Int)
        · rw [if_pos e1, if_neg (by omega), if_pos (.inr e1)]
        · rw [if_neg e1]
          by_cases e0 : (rd_T88 l of).f0 = (j : Int)
          · rw [if_pos e0, if_pos (.inl e0)]
          · rw [if_neg e0, if_neg (by omega)]
      · rw [if_neg h3, if_neg h3]
        by_cases h5 : op = 5
        · rw [if_pos h5, if_pos h5]
          obtain ⟨a, rfl⟩ := Int.eq_ofNat_of_zero_le h0
          by_cases e : a = j
          · subst e; simp [rd_T50, hj]
          · rw [if_neg (by omega)]; simp [rd_T50, List.getElem?_set_ne e]
        · rw [if_neg h5, if_neg h5]
theorem ev_cases {op of dir : Int} (h : eventOk n l op of dir = true) :
    ((op = 1 ∨ op = 2) ∧ 0 ≤ of ∧ of < (l.length : Int) ∧ (dir = 1 ∨ dir = -1)) ∨ ((op = 3 ∨ op = 4) ∧ 0 ≤ of ∧ of < (l.length : Int)) ∨ (op = 5 ∧ 0 ≤ of ∧ of < n) := by
  unfold eventOk at h
  split at h
  · split at h
    · rename_i h1
      simp at h
      exact .inl ⟨h1, h.1.1, h.1.2, h.2⟩
    · split at h
      · rename_i h1
        simp at h
        exact .inr (.inl ⟨h1, h.1.1, h.1.2⟩)
      · split at h
        · rename_i h1
          simp at h
          exact .inr (.inr ⟨h1, h.1.1, h.1.2⟩)
        · cases h
  · cases h
theorem step_get {s : S46} {e : S56} (hl : layoutOk n l = 0) (hok : eventOk n l e.f0 e.f1 e.f2 = true) (hc : doCode l s.f1 s.f2 e.f0 e.f1 = 0) (j : Nat) (hj : j < s.f1.length) :
    rd_T50 (runStep n l s e).f1.f1 (j : Int) = tellS l (midDead s.f2 e.f0 e.f1) j (midAt l e.f0 e.f1 e.f2 j (rd_T50 s.f1 (j : Int))) := by
  have h0 : 0 ≤ e.f1 ∧ (e.f0 = 1 ∨ e.f0 = 3 → (rd_T88 l e.f1).f0 ≠ (rd_T88 l e.f1).f1) := by
    rcases ev_cases hok with ⟨ho, h0, h1, _⟩ | ⟨ho, h0, h1⟩ | ⟨ho, h0, h1⟩
    · exact ⟨h0, fun _ => (lay_rd hl _ h0 h1).2.2.2.2⟩
    · exact ⟨h0, fun _ => (lay_rd hl _ h0 h1).2.2.2.2⟩
    · exact ⟨h0, fun h => by omega⟩
  unfold runStep
  rw [if_pos hok]
  show rd_T50 (doSecs l s.f1 s.f2 e.f0 e.f1 e.f2) (j : Int) = _
  unfold doSecs
  rw [if_pos hc, retold_get _ _ _ j (by rw [midSecs_length]; exact hj), mid_get _ _ _ _ h0.2 h0.1 j hj]
theorem step_not {s : S46} {e : S56} (hok : eventOk n l e.f0 e.f1 e.f2 = true) (hc : doCode l s.f1 s.f2 e.f0 e.f1 ≠ 0) : (runStep n l s e).f1.f1 = s.f1 ∧ (runStep n l s e).f1.f2 = s.f2 := by
  unfold runStep
  rw [if_pos hok]
  show doSecs l s.f1 s.f2 e.f0 e.f1 e.f2 = s.f1 ∧ doDead l s.f1 s.f2 e.f0 e.f1 = s.f2
  unfold doSecs doDead
  rw [if_neg hc, if_neg hc]
  exact ⟨rfl, rfl⟩
theorem cnt_id {x : S50} {b : Int} {i : Nat} (hi : i ≤ 2000) (hb : b = 1 ∨ b = -1) (h : -(i : Int) ≤ x.f1 ∧ x.f1 ≤ (i : Int)) : cntN x b = x.f1 + b := by
  have : wrap64 (x.f1 + b) = x.f1 + b := wrap_id (by omega) (by omega)
  unfold cntN
  rw [this, if_pos (by omega)]
end
end Go.Proofs.Ytpdnabhpkdchjaa.P
namespace Go.Proofs.Ytpdnabhpkdchjaa.P
open Go.RowKit Go.Proofs.YtpdnabhpkdchjaaW.PrintWords Go.Proofs.YtpdnabhpkdchjaaW.PrintLast Go.Proofs.YtpdnabhpkdchjaaW.PrintMore
set_option linter.unusedVariables false
set_option linter.unusedSimpArgs false
section
variable {n : Int} {l : List S88} {es : List S56}
theorem dead_none (k : Int) (m : Nat) : rdOf false (List.replicate m false) k = false := by
  simp only [rdOf, List.getD_eq_getElem?_getD, List.getElem?_replicate]; split <;> rfl
end
end Go.Proofs.Ytpdnabhpkdchjaa.P
namespace Go.Proofs.Ytpdnabhpkdchjaa.P
open Go.RowKit Go.Proofs.YtpdnabhpkdchjaaW.PrintWords Go.Proofs.YtpdnabhpkdchjaaW.PrintLast
set_option linter.unusedVariables false
set_option linter.unusedSimpArgs false
def ctrL (n i : Nat) : S88 := ⟨(i : Int) - 1, if i = n then -1 else (i : Int)⟩
def postL (ap : Int) (i : Nat) : S143 := ⟨ap * ((i : Int) + 1), (i : Int), 1⟩
def lineC (n : Nat) : List S88 := (List.range (n + 1)).map (ctrL n)
def lineP (n : Nat) (ap : Int) : List S143 := (List.range (n + 1)).map (postL ap)
theorem lineC_len (n : Nat) : (lineC n).length = n + 1 := by simp [lineC]
theorem lineP_len (n : Nat) (ap : Int) : (lineP n ap).length = n + 1 := by simp [lineP]
theorem lineC_rd (n i : Nat) (h : i ≤ n) : rd_T88 (lineC n) (i : Int) = ctrL n i := by
  rw [rd88 _ i (by rw [lineC_len]; omega)]
  simp [lineC]
theorem lineP_rd (n : Nat) (ap : Int) (i : Nat) (h : i ≤ n) : rd_T143 (lineP n ap) (i : Int) = postL ap i := by
  have hl : i < (lineP n ap).length := by rw [lineP_len]; omega
  rw [show rd_T143 (lineP n ap) (i : Int) = (lineP n ap)[i] by simp [rd_T143, hl]]
  simp [lineP]
theorem line_ok {n : Nat} (h1 : 1 ≤ n) (h2 : n ≤ 60) : layoutOk (n : Int) (lineC n) = 0 := by
  unfold layoutOk
  rw [if_neg (by omega), if_neg (by omega), if_neg (by rw [lineC_len]; omega), if_pos]
  rw [List.all_eq_true]
  intro x hx
  obtain ⟨i, hi, rfl⟩ := List.mem_map.1 hx
  have hi' := List.mem_range.1 hi
  unfold ctrL ctrOk inB
  dsimp only
  by_cases e : i = n
  · rw [if_pos e]
    simp
    omega
  · rw [if_neg e]
    simp
    omega
theorem line_posts {n : Nat} {ap : Int} (h0 : 0 ≤ ap) (h2 : n ≤ 60) (hb : ap * ((n : Int) + 1) ≤ 1000000) : ∀ k, k ≤ n + 1 → postsTo (lineC n) (lineP n ap) k = true
  | 0, _ => rfl
  | k + 1, hk => by
    have hle : ap * ((k : Int) + 1) ≤ ap * ((n : Int) + 1) := Int.mul_le_mul_of_nonneg_left (by omega) h0
    rw [postsTo, line_posts h0 h2 hb k (by omega), Bool.true_and, postAt, lineP_rd n ap k (by omega)]
    have hp : prevP (lineP n ap) k ≤ ap * ((k : Int) + 1) := by
      cases k with
      | zero => exact Int.mul_nonneg h0 (by omega)
      | succ k =>
        rw [prevP, lineP_rd n ap k (by omega)]
        exact Int.mul_le_mul_of_nonneg_left (by omega) h0
    unfold postL
    dsimp only
    rw [decide_eq_true hp, decide_eq_true (by omega), decide_eq_true (show (0 : Int) ≤ (k : Int) by omega), decide_eq_true (show (k : Int) < ((lineC n).length : Int) by rw [lineC_len]; omega)]
    rfl
theorem line_pass {n : Nat} {ap : Int} {ax : List Int} {fr tt : Int} (h1 : 1 ≤ n) (h2 : n ≤ 60) (h0 : 0 ≤ ap) (hb : ap * ((n : Int) + 1) ≤ 1000000) (ha : axlesTo ax ax.length = true) (hl : ax.length ≤ 200) (f0 : 0 ≤ fr) (f1 : fr ≤ tt) (f2 : tt ≤ 1000000) :
    passing (n : Int) (lineC n) (lineP n ap) ax fr tt = trainEvs (lineP n ap) ax fr tt := by
  rw [passing, if_pos]
  rw [passOk, decide_eq_true (line_ok h1 h2), lineP_len, line_posts h0 h2 hb _ (Nat.le_refl _), ha, decide_eq_true (show n + 1 ≤ 120 by omega), decide_eq_true hl, decide_eq_true f0, decide_eq_true (show fr ≤ 1000000 by omega), decide_eq_true f1, decide_eq_true f2]
  rfl
def cntE (es : List S56) (c : Int) : Nat := es.countP (fun e => e.f1 == c)
theorem cntE_snoc (es : List S56) (e : S56) (c : Int) : cntE (es ++ [e]) c = cntE es c + if e.f1 = c then 1 else 0 := by
  unfold cntE
  rw [List.countP_append, List.countP_singleton]
  by_cases h : e.f1 = c <;> simp [h]
def LineE (n : Nat) (e : S56) : Prop := e.f0 = 1 ∧ e.f2 = 1 ∧ ∃ c : Nat, c ≤ n ∧ e.f1 = (c : Int)
theorem lineE_ok {n : Nat} {e : S56} (h1 : 1 ≤ n) (h2 : n ≤ 60) (h : LineE n e) : eventOk (n : Int) (lineC n) e.f0 e.f1 e.f2 = true := by
  obtain ⟨a, b, c, hc, d⟩ := h
  rw [a, b, d]
  exact ok12 (line_ok h1 h2) (.inl rfl) (by omega) (by rw [lineC_len]; omega) (.inl rfl)
theorem train_line {n : Nat} {ap : Int} {ax : List Int} {fr tt : Int} : ∀ e ∈ trainEvs (lineP n ap) ax fr tt, LineE n e := by
  intro e he
  obtain ⟨x, hx, rfl⟩ := List.mem_map.1 he
  obtain ⟨i, k, hi, hk, e2, -⟩ := mem_mets.1 (mem_sortM.1 hx)
  rw [lineP_len] at hk
  have h2 : x.f2 = (k : Int) := by rw [e2]
  unfold evOf LineE
  dsimp only
  rw [h2, lineP_rd n ap k (by omega)]
  exact ⟨rfl, rfl, k, by omega, rfl⟩
theorem train_cnt {n : Nat} {ap : Int} {ax : List Int} {fr tt : Int} (m : Nat) (c : Nat) : cntE ((trainEvs (lineP n ap) ax fr tt).take m) (c : Int) = atPost ((sortM (mets (lineP n ap) ax fr tt)).take m) (c : Int) := by
  unfold trainEvs cntE atPost
  rw [← List.map_take, List.countP_map]
  refine List.countP_congr (fun x hx => ?_)
  obtain ⟨i, k, hi, hk, e2, -⟩ := mem_mets.1 (mem_sortM.1 (List.mem_of_mem_take hx))
  rw [lineP_len] at hk
  have h2 : x.f2 = (k : Int) := by rw [e2]
  simp only [Function.comp, evOf, h2]
  rw [lineP_rd n ap k (by omega)]
  exact Iff.rfl
section
variable {n : Nat} {ap : Int} {ax : List Int} {fr tt : Int}
theorem train_len : (trainEvs (lineP n ap) ax fr tt).length ≤ ax.length * (n + 1) := by
  rw [trainEvs, List.length_map, sortM_len]
  have := metTo_len (lineP n ap) ax fr tt ax.length
  rw [lineP_len] at this
  exact this
end
end Go.Proofs.Ytpdnabhpkdchjaa.P
namespace Go.Proofs.Ytpdnabhpkdchjaa.P
open Go.RowKit Go.Proofs.YtpdnabhpkdchjaaW.PrintWords Go.Proofs.YtpdnabhpkdchjaaW.PrintLast
set_option linter.unusedVariables false
set_option linter.unusedSimpArgs false
def goS (n : Int) (l : List S88) (s : S46) (es : List S56) : S46 := es.foldl (fun s e => (runStep n l s e).f1) s
theorem stAt_go (n : Int) (l : List S88) (es : List S56) (k : Nat) : stAt n l es k = goS n l (st0 n l) (es.take k) := rfl
theorem goS_app (n : Int) (l : List S88) (s : S46) (a b : List S56) : goS n l s (a ++ b) = goS n l (goS n l s a) b := List.foldl_append
theorem goS_one (n : Int) (l : List S88) (s : S46) (e : S56) : goS n l s [e] = (runStep n l s e).f1 := rfl
theorem goS_cons (n : Int) (l : List S88) (s : S46) (e : S56) (es : List S56) : goS n l s (e :: es) = goS n l (runStep n l s e).f1 es := rfl
def inS (pre : List S56) (j : Nat) : Int := (cntE pre (j : Int) : Int) - (cntE pre ((j + 1 : Nat) : Int) : Int)
theorem cntE_le (pre : List S56) (c : Int) : cntE pre c ≤ pre.length := List.countP_le_length
theorem inS_nil (j : Nat) : inS [] j = 0 := by simp [inS, cntE]
theorem inS_snoc (pre : List S56) (e : S56) (c j : Nat) (he : e.f1 = (c : Int)) : inS (pre ++ [e]) j = inS pre j + (if c = j then 1 else 0) - (if c = j + 1 then 1 else 0) := by
  unfold inS
  rw [cntE_snoc, cntE_snoc, he]
  by_cases h1 : c = j
  · subst h1
    rw [if_pos rfl, if_pos rfl, if_neg (by omega), if_neg (by omega)]
    omega
  · rw [if_neg (by omega), if_neg h1]
    by_cases h2 : c = j + 1
    · subst h2
      rw [if_pos rfl, if_pos rfl]
      omega
    · rw [if_neg (by omega), if_neg h2]
      omega
structure SwI (n : Nat) (dd : List Bool) (T : Nat) (lost : Nat → Prop) (L : Prop) (pre : List S56) (s : S46) : Prop where
  len : s.f1.length = n
  dead : s.f2 = dd
  bad : ∀ j : Nat, j < n → lost j → L → (rd_T50 s.f1 (j : Int)).f2 = true
  good : ∀ j : Nat, j < n → ¬ lost j → (rd_T50 s.f1 (j : Int)).f1 = inS pre j ∧ (rd_T50 s.f1 (j : Int)).f2 = false ∧ ((rd_T50 s.f1 (j : Int)).f3 = true → cntE pre ((j + 1 : Nat) : Int) < T)
theorem sw_zero {n : Nat} (lost : Nat → Prop) : SwI n (List.replicate (n + 1) false) 0 lost False [] (st0 (n : Int) (lineC n)) := by
  have hz : ∀ j : Nat, rd_T50 (st0 (n : Int) (lineC n)).f1 (j : Int) = z50 := fun j => by
    show rd_T50 (List.replicate ((n : Int)).toNat z50) (j : Int) = z50
    simp only [rd_T50, List.getD_eq_getElem?_getD, List.getElem?_replicate]
    split <;> rfl
  refine ⟨by simp [st0], by simp [st0, lineC_len], fun j _ _ h => h.elim, fun j _ _ => ?_⟩
  rw [hz, inS_nil]
  exact ⟨rfl, rfl, fun h => by cases h⟩
section
variable {n : Nat} (h1 : 1 ≤ n) (h2 : n ≤ 60)
include h1 h2
theorem pass_sec {s : S46} {e : S56} {c : Nat} (he : e.f0 = 1 ∧ e.f2 = 1 ∧ e.f1 = (c : Int)) (hc : c ≤ n) (hs : s.f1.length = n) :
    (rdOf false s.f2 (c : Int) = true → (runStep (n : Int) (lineC n) s e).f1.f1 = s.f1 ∧ (runStep (n : Int) (lineC n) s e).f1.f2 = s.f2) ∧
    (rdOf false s.f2 (c : Int) = false → (runStep (n : Int) (lineC n) s e).f1.f2 = s.f2 ∧ ∀ j : Nat, j < n → rd_T50 (runStep (n : Int) (lineC n) s e).f1.f1 (j : Int) = tellS (lineC n) s.f2 j (if c = j + 1 then countS (rd_T50 s.f1 (j : Int)) (-1) else if c = j then countS (rd_T50 s.f1 (j : Int)) 1 else rd_T50 s.f1 (j : Int))) := by
  have hlo := line_ok h1 h2
  have hok := lineE_ok (e := e) h1 h2 ⟨he.1, he.2.1, c, hc, he.2.2⟩
  have hcode : doCode (lineC n) s.f1 s.f2 e.f0 e.f1 = if rdOf false s.f2 (c : Int) = true then 2 else 0 := by
    unfold doCode
    rw [if_pos (.inl he.1), he.2.2]
  refine ⟨fun hd => step_not hok (by rw [hcode, if_pos hd]; decide), fun hd => ?_⟩
  have hc0 : doCode (lineC n) s.f1 s.f2 e.f0 e.f1 = 0 := by rw [hcode, hd]; rfl
  have hmd : midDead s.f2 e.f0 e.f1 = s.f2 := by
    unfold midDead
    rw [if_neg (by omega), if_neg (by omega)]
  refine ⟨?_, fun j hj => ?_⟩
  · unfold runStep
    rw [if_pos hok]
    show doDead (lineC n) s.f1 s.f2 e.f0 e.f1 = s.f2
    unfold doDead
    rw [if_pos hc0, hmd]
  · rw [step_get hlo hok hc0 j (by omega), hmd]
    congr 1
    unfold midAt
    rw [he.1, he.2.1, he.2.2, lineC_rd n c hc]
    simp only [if_true, if_neg (show ¬ (1 : Int) = -1 by decide)]
    unfold ctrL
    dsimp only
    by_cases q1 : c = j + 1
    · rw [if_pos (by omega), if_pos q1]
    · rw [if_neg (by omega), if_neg q1]
      by_cases q2 : c = j
      · rw [if_neg (show ¬ c = n by omega), if_pos (by omega), if_pos q2]
      · rw [if_neg (by split <;> omega), if_neg q2]
theorem sw_step {dd : List Bool} {T : Nat} {lost : Nat → Prop} {L : Prop} {pre : List S56} {s : S46} {e : S56} (hI : SwI n dd T lost L pre s) (he : LineE n e) (hp : pre.length ≤ 1000) (hm : ∀ j : Nat, j < n → cntE (pre ++ [e]) ((j + 1 : Nat) : Int) ≤ cntE (pre ++ [e]) (j : Int)) (hT : T = 0 ∨ ∀ j : Nat, j < n → cntE (pre ++ [e]) (j : Int) ≤ T) (hdd : ∀ c : Nat, rdOf false dd (c : Int) = true → ∀ j : Nat, ¬ lost j → c ≠ j ∧ c ≠ j + 1) :
    SwI n dd T lost L (pre ++ [e]) (runStep (n : Int) (lineC n) s e).f1 := by
  obtain ⟨a, b, c, hc, d⟩ := he
  obtain ⟨P1, P2⟩ := pass_sec h1 h2 (s := s) (e := e) ⟨a, b, d⟩ hc hI.len
  have hlen := (runStep_len (n : Int) (lineC n) s e).1
  have hsn : ∀ j : Nat, cntE (pre ++ [e]) ((j + 1 : Nat) : Int) = cntE pre ((j + 1 : Nat) : Int) + if c = j + 1 then 1 else 0 := fun j => by
    rw [cntE_snoc, d]
    by_cases q : c = j + 1
    · rw [if_pos q, if_pos (by omega)]
    · rw [if_neg q, if_neg (by omega)]
  cases hd : rdOf false s.f2 (c : Int) with
  | true =>
    obtain ⟨e1, e2⟩ := P1 hd
    rw [hI.dead] at hd
    refine ⟨by rw [e1]; exact hI.len, by rw [e2]; exact hI.dead, by rw [e1]; exact hI.bad, fun j hj hl => ?_⟩
    obtain ⟨n1, n2⟩ := hdd c hd j hl
    rw [e1, inS_snoc pre e c j d, if_neg n1, if_neg n2, hsn, if_neg n2]
    obtain ⟨g1, g2, g3⟩ := hI.good j hj hl
    exact ⟨by omega, g2, g3⟩
  | false =>
    obtain ⟨e2, e1⟩ := P2 hd
    refine ⟨by rw [hlen]; exact hI.len, by rw [e2]; exact hI.dead, fun j hj hl hL => ?_, fun j hj hl => ?_⟩
    · rw [e1 j hj]
      have hb := hI.bad j hj hl hL
      show (if c = j + 1 then countS (rd_T50 s.f1 (j : Int)) (-1) else if c = j then countS (rd_T50 s.f1 (j : Int)) 1 else rd_T50 s.f1 (j : Int)).f2 = true
      split
      · simp [countS, hb]
      · split
        · simp [countS, hb]
        · exact hb
    · rw [e1 j hj, inS_snoc pre e c j d, hsn j]
      obtain ⟨g1, g2, g3⟩ := hI.good j hj hl
      have hmj := hm j hj
      have hTj : T = 0 ∨ cntE (pre ++ [e]) (j : Int) ≤ T := hT.imp id (fun h => h j hj)
      have hin : inS (pre ++ [e]) j = (cntE (pre ++ [e]) (j : Int) : Int) - (cntE (pre ++ [e]) ((j + 1 : Nat) : Int) : Int) := rfl
      rw [inS_snoc pre e c j d] at hin
      have b1 := cntE_le pre (j : Int)
      have b2 := cntE_le pre ((j + 1 : Nat) : Int)
      have hbd : -(pre.length : Int) ≤ (rd_T50 s.f1 (j : Int)).f1 ∧ (rd_T50 s.f1 (j : Int)).f1 ≤ (pre.length : Int) := by
        rw [g1]; unfold inS; omega
      have c1 := cnt_id (x := rd_T50 s.f1 (j : Int)) (b := 1) (i := pre.length) (by omega) (.inl rfl) hbd
      have c2 := cnt_id (x := rd_T50 s.f1 (j : Int)) (b := -1) (i := pre.length) (by omega) (.inr rfl) hbd
      generalize rd_T50 s.f1 (j : Int) = x at *
      rw [hsn] at hmj hin
      show (if c = j + 1 then countS x (-1) else if c = j then countS x 1 else x).f1 = _ ∧ (if c = j + 1 then countS x (-1) else if c = j then countS x 1 else x).f2 = false ∧ ((if c = j + 1 then countS x (-1) else if c = j then countS x 1 else x).f3 = true → _)
      by_cases q1 : c = j + 1
      · have q2 : ¬ c = j := by omega
        simp only [if_pos q1, if_neg q2] at hin hmj ⊢
        simp only [countS, c2, g2]
        refine ⟨by omega, by simp; omega, fun hf => ?_⟩
        rw [Bool.and_eq_true] at hf
        have hf3 := g3 hf.1
        have hne : x.f1 + -1 ≠ 0 := fun q => by rw [q] at hf; simp at hf
        rcases hTj with h | h
        · omega
        · omega
      · by_cases q2 : c = j
        · simp only [if_pos q2, if_neg q1] at hin hmj ⊢
          simp only [countS, c1, g2]
          refine ⟨by omega, by simp; omega, fun hf => ?_⟩
          rw [Bool.and_eq_true] at hf
          have hf3 := g3 hf.1
          omega
        · simp only [if_neg q1, if_neg q2] at hin hmj ⊢
          exact ⟨by omega, g2, fun hf => by have := g3 hf; omega⟩
theorem sw_phase {all : List S56} {dd : List Bool} {T : Nat} {lost : Nat → Prop} {L : Prop} (hall : ∀ e ∈ all, LineE n e) (hp : all.length ≤ 1000) (hm : ∀ pre, pre <+: all → ∀ j : Nat, j < n → cntE pre ((j + 1 : Nat) : Int) ≤ cntE pre (j : Int)) (hT : T = 0 ∨ ∀ pre, pre <+: all → ∀ j : Nat, j < n → cntE pre (j : Int) ≤ T) (hdd : ∀ c : Nat, rdOf false dd (c : Int) = true → ∀ j : Nat, ¬ lost j → c ≠ j ∧ c ≠ j + 1) :
    ∀ (q p : List S56) (s : S46), p ++ q <+: all → SwI n dd T lost L p s → SwI n dd T lost L (p ++ q) (goS (n : Int) (lineC n) s q)
  | [], p, s, _, h => by rw [List.append_nil]; exact h
  | e :: q, p, s, hpre, h => by
    have e0 : p ++ e :: q = (p ++ [e]) ++ q := by simp
    rw [e0] at hpre ⊢
    have h1p : p ++ [e] <+: all := (List.prefix_append _ _).trans hpre
    rw [goS_cons]
    refine sw_phase hall hp hm hT hdd q (p ++ [e]) _ hpre (sw_step h1 h2 h (hall e (h1p.subset (by simp))) ?_ (fun j hj => hm _ h1p j hj) (hT.imp id (fun h j hj => h _ h1p j hj)) hdd)
    have := h1p.length_le
    rw [List.length_append] at this
    omega
def besideK (k j : Nat) : Prop := j = k ∨ j + 1 = k
theorem sw_dead {dd : List Bool} {T k : Nat} {L : Prop} {pre : List S56} {s : S46} (hk : 1 ≤ k ∧ k < n) (hI : SwI n dd T (besideK k) L pre s) : SwI n (dd.set k true) T (besideK k) True pre (runStep (n : Int) (lineC n) s ⟨3, (k : Int), 0⟩).f1 := by
  have hlo := line_ok h1 h2
  have hok : eventOk (n : Int) (lineC n) 3 (k : Int) 0 = true := ok34 hlo (.inl rfl) (by omega) (by rw [lineC_len]; omega)
  have hc0 : doCode (lineC n) s.f1 s.f2 3 (k : Int) = 0 := by simp [doCode]
  have hmd : midDead s.f2 3 (k : Int) = s.f2.set k true := by simp [midDead]
  have hlen := (runStep_len (n : Int) (lineC n) s ⟨3, (k : Int), 0⟩).1
  have hget : ∀ j : Nat, j < n → rd_T50 (runStep (n : Int) (lineC n) s ⟨3, (k : Int), 0⟩).f1.f1 (j : Int) = tellS (lineC n) (s.f2.set k true) j (if (k : Int) - 1 = (j : Int) ∨ (k : Int) = (j : Int) then loseS (rd_T50 s.f1 (j : Int)) else rd_T50 s.f1 (j : Int)) := fun j hj => by
    rw [step_get (e := ⟨3, (k : Int), 0⟩) hlo hok hc0 j (by have := hI.len; omega)]
    dsimp only
    rw [hmd]
    congr 1
    unfold midAt
    rw [lineC_rd n k (by omega)]
    unfold ctrL
    simp only [if_neg (show ¬ k = n by omega)]
    rfl
  refine ⟨by rw [hlen]; exact hI.len, ?_, fun j hj hl _ => ?_, fun j hj hl => ?_⟩
  · unfold runStep
    rw [if_pos hok]
    show doDead (lineC n) s.f1 s.f2 3 (k : Int) = _
    unfold doDead
    rw [if_pos hc0, hmd, hI.dead]
  · rw [hget j hj, if_pos (by unfold besideK at hl; omega)]
    rfl
  · rw [hget j hj, if_neg (by unfold besideK at hl; omega)]
    exact hI.good j hj hl
theorem sw_alive {dd : List Bool} {T k : Nat} {lost : Nat → Prop} {L : Prop} {pre : List S56} {s : S46} (hk : 1 ≤ k ∧ k < n) (hI : SwI n dd T lost L pre s) : SwI n (dd.set k false) T lost L pre (runStep (n : Int) (lineC n) s ⟨4, (k : Int), 0⟩).f1 := by
  have hlo := line_ok h1 h2
  have hok : eventOk (n : Int) (lineC n) 4 (k : Int) 0 = true := ok34 hlo (.inr rfl) (by omega) (by rw [lineC_len]; omega)
  have hc0 : doCode (lineC n) s.f1 s.f2 4 (k : Int) = 0 := by simp [doCode]
  have hmd : midDead s.f2 4 (k : Int) = s.f2.set k false := by simp [midDead]
  have hlen := (runStep_len (n : Int) (lineC n) s ⟨4, (k : Int), 0⟩).1
  have hget : ∀ j : Nat, j < n → rd_T50 (runStep (n : Int) (lineC n) s ⟨4, (k : Int), 0⟩).f1.f1 (j : Int) = tellS (lineC n) (s.f2.set k false) j (rd_T50 s.f1 (j : Int)) := fun j hj => by
    rw [step_get (e := ⟨4, (k : Int), 0⟩) hlo hok hc0 j (by have := hI.len; omega)]
    dsimp only
    rw [hmd]
    rfl
  refine ⟨by rw [hlen]; exact hI.len, ?_, fun j hj hl hL => ?_, fun j hj hl => ?_⟩
  · unfold runStep
    rw [if_pos hok]
    show doDead (lineC n) s.f1 s.f2 4 (k : Int) = _
    unfold doDead
    rw [if_pos hc0, hmd, hI.dead]
  · rw [hget j hj]
    exact hI.bad j hj hl hL
  · rw [hget j hj]
    exact hI.good j hj hl
theorem sw_reset {m T i : Nat} {lost : Nat → Prop} {s : S46} (hi : i < n) (hT : 0 < T) (hI : SwI n (List.replicate m false) T lost True [] s) :
    ((runStep (n : Int) (lineC n) s ⟨5, (i : Int), 0⟩).f0 = 0 ∧ SwI n (List.replicate m false) T (fun j => lost j ∧ j ≠ i) True [] (runStep (n : Int) (lineC n) s ⟨5, (i : Int), 0⟩).f1 ∧ (rd_T50 (runStep (n : Int) (lineC n) s ⟨5, (i : Int), 0⟩).f1.f1 (i : Int)).f3 = true ∧ ∀ j : Nat, j < n → j ≠ i → (rd_T50 (runStep (n : Int) (lineC n) s ⟨5, (i : Int), 0⟩).f1.f1 (j : Int)).f3 = (rd_T50 s.f1 (j : Int)).f3) ∨
    ((runStep (n : Int) (lineC n) s ⟨5, (i : Int), 0⟩).f0 = 4 ∧ (runStep (n : Int) (lineC n) s ⟨5, (i : Int), 0⟩).f1.f1 = s.f1 ∧ SwI n (List.replicate m false) T lost True [] (runStep (n : Int) (lineC n) s ⟨5, (i : Int), 0⟩).f1) := by
  have hlo := line_ok h1 h2
  have hok : eventOk (n : Int) (lineC n) 5 (i : Int) 0 = true := ok5 hlo (by omega) (by omega)
  have hlen := (runStep_len (n : Int) (lineC n) s ⟨5, (i : Int), 0⟩).1
  have hcode : doCode (lineC n) s.f1 s.f2 5 (i : Int) = if (rd_T50 s.f1 (i : Int)).f4 = 1 then 4 else 0 := by
    unfold doCode
    rw [if_neg (by decide), if_pos rfl, hI.dead, anyFalse, if_neg (by decide)]
  have hf0 : (runStep (n : Int) (lineC n) s ⟨5, (i : Int), 0⟩).f0 = doCode (lineC n) s.f1 s.f2 5 (i : Int) := by
    unfold runStep
    rw [if_pos hok]
  by_cases h4 : (rd_T50 s.f1 (i : Int)).f4 = 1
  · rw [if_pos h4] at hcode
    obtain ⟨e1, e2⟩ := step_not (n := (n : Int)) (l := lineC n) (s := s) (e := ⟨5, (i : Int), 0⟩) hok (by show doCode (lineC n) s.f1 s.f2 5 (i : Int) ≠ 0; rw [hcode]; decide)
    exact .inr ⟨hf0.trans hcode, e1, by rw [e1]; exact hI.len, by rw [e2]; exact hI.dead, by rw [e1]; exact hI.bad, by rw [e1]; exact hI.good⟩
  · rw [if_neg h4] at hcode
    have hmd : midDead s.f2 5 (i : Int) = s.f2 := by simp [midDead]
    have hget : ∀ j : Nat, j < n → rd_T50 (runStep (n : Int) (lineC n) s ⟨5, (i : Int), 0⟩).f1.f1 (j : Int) = tellS (lineC n) s.f2 j (if (i : Int) = (j : Int) then ⟨0, 0, false, true, 0⟩ else rd_T50 s.f1 (j : Int)) := fun j hj => by
      rw [step_get (e := ⟨5, (i : Int), 0⟩) hlo hok hcode j (by have := hI.len; omega)]
      dsimp only
      rw [hmd]
      rfl
    refine .inl ⟨hf0.trans hcode, ⟨by rw [hlen]; exact hI.len, ?_, fun j hj hl hL => ?_, fun j hj hl => ?_⟩, ?_, fun j hj hji => ?_⟩
    · unfold runStep
      rw [if_pos hok]
      show doDead (lineC n) s.f1 s.f2 5 (i : Int) = _
      unfold doDead
      rw [if_pos hcode, hmd, hI.dead]
    · rw [hget j hj, if_neg (by have := hl.2; omega)]
      exact hI.bad j hj hl.1 hL
    · by_cases q : i = j
      · rw [hget j hj, if_pos (by omega), inS_nil]
        exact ⟨rfl, rfl, fun _ => by simpa [cntE] using hT⟩
      · rw [hget j hj, if_neg (by omega)]
        exact hI.good j hj (fun h => hl ⟨h, fun e => q e.symm⟩)
    · rw [hget i hi, if_pos rfl]
      rfl
    · rw [hget j hj, if_neg (by omega)]
      rfl
end
def axK (K : Nat) : List Int := (List.range K).map (fun i : Nat => 3 * (i : Int))
theorem axK_succ (K : Nat) : axK (K + 1) = axK K ++ [3 * (K : Int)] := by
  rw [axK, List.range_succ, List.map_append]; rfl
theorem axK_len (K : Nat) : (axK K).length = K := by simp [axK]
theorem axK_rd (K i : Nat) (h : i < K) : rd (axK K) (i : Int) = 3 * (i : Int) := by simp [rd, axK, h]
theorem axK_ok {K : Nat} (hK : K ≤ 1000) : ∀ i, i ≤ K → axlesTo (axK K) i = true
  | 0, _ => rfl
  | i + 1, hi => by
    rw [axlesTo, axK_ok hK i (by omega), Bool.true_and, axleAt, axK_rd K i (by omega)]
    have hp : prevA (axK K) i ≤ 3 * (i : Int) := by
      cases i with
      | zero => exact Int.le_refl _
      | succ i => rw [prevA, axK_rd K i (by omega)]; omega
    rw [decide_eq_true hp, decide_eq_true (by omega)]
    rfl
section
variable {n : Nat} {ax : List Int}
theorem fifty (hn : n ≤ 6) (c : Nat) (hc : c ≤ n) : rd_T143 (lineP n 50) (c : Int) = ⟨50 * ((c : Int) + 1), (c : Int), 1⟩ := lineP_rd n 50 c hc
theorem tr_mono (hn : n ≤ 6) (hax : ∀ i : Nat, i < ax.length → 0 ≤ rd ax (i : Int) ∧ rd ax (i : Int) ≤ 100) : ∀ pre, pre <+: trainEvs (lineP n 50) ax 0 1000 → ∀ j : Nat, j < n → cntE pre ((j + 1 : Nat) : Int) ≤ cntE pre (j : Int) := by
  intro pre hp j hj
  rw [List.prefix_iff_eq_take.1 hp, train_cnt, train_cnt]
  refine atPost_mono (ps := lineP n 50) (ax := ax) (fr := 0) (tt := 1000) pre.length j (by rw [lineP_len]; omega) (by rw [fifty hn j (by omega), fifty hn (j + 1) (by omega)]; dsimp only; omega) (fun i hi => ?_)
  rw [fifty hn j (by omega)]
  have := hax i hi
  dsimp only
  omega
theorem tr_all (hn : n ≤ 6) (hax : ∀ i : Nat, i < ax.length → 0 ≤ rd ax (i : Int) ∧ rd ax (i : Int) ≤ 100) (c : Nat) (hc : c ≤ n) : cntE (trainEvs (lineP n 50) ax 0 1000) (c : Int) = ax.length := by
  have h := train_cnt (n := n) (ap := 50) (ax := ax) (fr := 0) (tt := 1000) (trainEvs (lineP n 50) ax 0 1000).length c
  rw [List.take_length] at h
  have hm : (sortM (mets (lineP n 50) ax 0 1000)).take (trainEvs (lineP n 50) ax 0 1000).length = sortM (mets (lineP n 50) ax 0 1000) := by
    rw [trainEvs, List.length_map]
    exact List.take_length
  rw [h, hm, atPost_all c (by rw [lineP_len]; omega) (fun i hi => by rw [fifty hn c hc]; have := hax i hi; dsimp only; omega), List.countP_eq_length.2, List.length_range]
  intro i hi
  have := hax i (List.mem_range.1 hi)
  rw [fifty hn c hc, decide_eq_true_eq]
  dsimp only
  omega
theorem tr_le (hn : n ≤ 6) (hax : ∀ i : Nat, i < ax.length → 0 ≤ rd ax (i : Int) ∧ rd ax (i : Int) ≤ 100) : ∀ pre, pre <+: trainEvs (lineP n 50) ax 0 1000 → ∀ j : Nat, j < n → cntE pre (j : Int) ≤ ax.length := by
  intro pre hp j hj
  rw [← tr_all hn hax j (by omega)]
  exact hp.sublist.countP_le
end
theorem none_dead {m c : Nat} {P : Prop} (h : rdOf false (List.replicate m false) (c : Int) = true) : P := by
  rw [dead_none] at h; cases h
theorem only_dead {m k c : Nat} (h : rdOf false ((List.replicate m false).set k true) (c : Int) = true) : c = k := by
  rw [rdOf_set] at h
  split at h
  · rename_i q; exact q.1.symm
  · exact none_dead h
theorem set_back (m k : Nat) : ((List.replicate m false).set k true).set k false = List.replicate m false := by
  apply List.ext_getElem (by simp)
  intro i h1 h2
  simp [List.getElem_set]
theorem sw_told {n m T : Nat} {lost : Nat → Prop} {pre : List S56} {s : S46} (hI : SwI n (List.replicate m false) T lost True pre s) (hst : stateOk (n : Int) (lineC n) s.f0 s.f1 s.f2 = true) (j : Nat) (hj : j < n) :
    (lost j → (rd_T50 s.f1 (j : Int)).f0 = 1) ∧ (¬ lost j → inS pre j = 0 → (rd_T50 s.f1 (j : Int)).f0 = if (rd_T50 s.f1 (j : Int)).f3 = true then 2 else 0) := by
  obtain ⟨-, -, hsn, -, hsec⟩ := stateOk_of hst
  have ht := secOk_told (hsec j (by rw [hI.len]; exact hj))
  rw [hI.dead] at ht
  have hdd := anyFalse (lineC n) m (j : Int)
  refine ⟨fun hl => ?_, fun hl hz => ?_⟩
  · rw [ht, toldC, hdd, hI.bad j hj hl trivial]
    simp
  · obtain ⟨g1, g2, g3⟩ := hI.good j hj hl
    rw [ht, toldC, hdd, g2, g1, hz]
    simp
def swList (k : Nat) (ea eb : List S56) : List S56 := ((ea ++ [⟨3, (k : Int), 0⟩]) ++ eb) ++ [⟨4, (k : Int), 0⟩]
section
variable {n k : Nat} {ax : List Int} {ea eb e2 : List S56}
theorem sw_one (h1 : 1 ≤ n) (hn : n ≤ 6) (hk : 1 ≤ k ∧ k < n) (hax : ∀ i : Nat, i < ax.length → 0 ≤ rd ax (i : Int) ∧ rd ax (i : Int) ≤ 100) (hal : (trainEvs (lineP n 50) ax 0 1000).length ≤ 1000) (hab : ea ++ eb = trainEvs (lineP n 50) ax 0 1000) :
    SwI n (List.replicate (n + 1) false) 3 (besideK k) True [] (goS (n : Int) (lineC n) (st0 (n : Int) (lineC n)) (swList k ea eb)) := by
  have h2 : n ≤ 60 := by omega
  have hl : ∀ e ∈ trainEvs (lineP n 50) ax 0 1000, LineE n e := train_line
  have hm := tr_mono hn hax
  have p1 := sw_phase h1 h2 hl hal hm (.inl rfl) (fun c h => none_dead h) ea [] _ (by rw [List.nil_append, ← hab]; exact List.prefix_append _ _) (sw_zero (besideK k))
  have p2 := sw_dead h1 h2 hk p1
  have p3 := sw_phase h1 h2 hl hal hm (.inl rfl) (fun c h j hj => by have := only_dead h; unfold besideK at hj; omega) eb _ _ (by rw [List.nil_append, ← hab]; exact List.prefix_rfl) p2
  have p4 := sw_alive h1 h2 hk p3
  rw [List.nil_append, set_back, hab] at p4
  unfold swList
  rw [goS_app, goS_app, goS_app, goS_one, goS_one]
  refine ⟨p4.len, p4.dead, p4.bad, fun j hj hb => ?_⟩
  obtain ⟨g1, g2, g3⟩ := p4.good j hj hb
  refine ⟨?_, g2, fun h => absurd (g3 h) (Nat.not_lt_zero _)⟩
  rw [g1, inS_nil, inS, tr_all hn hax j (by omega), tr_all hn hax (j + 1) (by omega)]
  omega
theorem sw_two (h1 : 1 ≤ n) (hn : n ≤ 6) {lost : Nat → Prop} {s : S46} (hax : ∀ i : Nat, i < ax.length → 0 ≤ rd ax (i : Int) ∧ rd ax (i : Int) ≤ 100) (h3 : ax.length = 3) (hal : (trainEvs (lineP n 50) ax 0 1000).length ≤ 1000) (h : SwI n (List.replicate (n + 1) false) 3 lost True [] s) (j : Nat) (hj : j < n)
    (hst : stateOk (n : Int) (lineC n) (goS (n : Int) (lineC n) s (trainEvs (lineP n 50) ax 0 1000)).f0 (goS (n : Int) (lineC n) s (trainEvs (lineP n 50) ax 0 1000)).f1 (goS (n : Int) (lineC n) s (trainEvs (lineP n 50) ax 0 1000)).f2 = true) :
    (lost j → (rd_T50 (goS (n : Int) (lineC n) s (trainEvs (lineP n 50) ax 0 1000)).f1 (j : Int)).f0 = 1) ∧ (¬ lost j → (rd_T50 (goS (n : Int) (lineC n) s (trainEvs (lineP n 50) ax 0 1000)).f1 (j : Int)).f0 = 0) := by
  have h2 : n ≤ 60 := by omega
  have p := sw_phase h1 h2 (train_line (n := n) (ap := 50) (ax := ax) (fr := 0) (tt := 1000)) hal (tr_mono hn hax) (.inr (fun pre hp j hj => by have := tr_le hn hax pre hp j hj; omega)) (fun c h => none_dead h) _ [] _ (by rw [List.nil_append]; exact List.prefix_rfl) h
  rw [List.nil_append] at p
  have ht := sw_told p hst j hj
  refine ⟨ht.1, fun hl => ?_⟩
  obtain ⟨-, -, g3⟩ := p.good j hj hl
  have hz : inS (trainEvs (lineP n 50) ax 0 1000) j = 0 := by
    rw [inS, tr_all hn hax j (by omega), tr_all hn hax (j + 1) (by omega)]
    omega
  rw [ht.2 hl hz, if_neg]
  intro hf
  have := g3 hf
  rw [tr_all hn hax (j + 1) (by omega), h3] at this
  omega
end
end Go.Proofs.Ytpdnabhpkdchjaa.P
namespace Go.Proofs.Ytpdnabhpkdchjaa.P
open Go.RowKit Go.Proofs.YtpdnabhpkdchjaaW.PrintWords Go.Proofs.YtpdnabhpkdchjaaW.PrintLast Go.Proofs.YtpdnabhpkdchjaaW.PrintMore
attribute [local go_sem] max2_int min2_int max_two min_two max_three min_three max_four min_four
set_option linter.unusedVariables false
set_option linter.unusedSimpArgs false
def laws_wByte.f (l0:List Int) (a1:Int):Option (Int):=if (l0.length:Int)=0 then (some 0) else (if 0≤(Int.tmod a1 (l0.length:Int)) then (if (Int.tmod a1 (l0.length:Int))<(l0.length:Int) then (some (wrap64 (rd l0 (Int.tmod a1 (l0.length:Int))))) else (none)) else (none))
set_option maxHeartbeats 8000000 in
set_option maxRecDepth 100000 in
theorem laws_wByte.calls (A0:Option Addr) (c0:Nat) (l0:List Int) (a1:Int) (r:Int) (w:World) (hr0:Kd.C (Kd.int .u8) w A0 l0.length l0) (hc0:l0.length≤c0) (h:laws_wByte.f l0 a1=some r) :
  Calls Try.prog 64 #[.slice A0 l0.length c0,.int .i64 a1] w fun e w'=>e=.returned (.int .i64 r)∧Drawn0 w w':=by
 have HR0:=Aside0.mk hr0
 have HC0:=Aside0.mk hc0
 clear hr0 hc0
 have H:(if (l0.length:Int)=0 then (some 0) else (if 0≤(Int.tmod a1 (l0.length:Int)) then (if (Int.tmod a1 (l0.length:Int))<(l0.length:Int) then (some (wrap64 (rd l0 (Int.tmod a1 (l0.length:Int))))) else (none)) else (none)))=some r:=h
 clear h
 by_cases c3:(l0.length:Int)=0
 ·rw [if_pos c3] at H
  have c3b0:((l0.length:Int)==0)=true:=beq_iff_eq.mpr c3
  have c3b1:((l0.length:Int) != 0)=false:=bne_eq_false_iff_eq.mpr c3
  clear c3
  obtain rfl:=Option.some.inj H
  go_enter Try.func64,Try.ntmps64
  go_wp2
  go_ret
  exact ⟨by first|rfl|(simp;done)|(simp [*];done),by repeat (first|exact Drawn0.refl _|apply Drawn0.step)⟩
 rw [if_neg c3] at H
 have c3b0:((l0.length:Int)==0)=false:=beq_eq_false_iff_ne.mpr c3
 have c3b1:((l0.length:Int) != 0)=true:=bne_iff_ne.mpr c3
 have c3b2:¬ (l0=[]):=fun h_=>c3 (by rw [h_];rfl)
 obtain ⟨ji4,hji4⟩:∃ j_:Int,(Int.tmod a1 (l0.length:Int))=j_:=⟨_,rfl⟩
 replace H:(if 0≤(ji4) then (if (ji4)<(l0.length:Int) then (some (wrap64 (rd l0 (ji4)))) else (none)) else (none))=some r:=by first|(rw [hji4] at H;exact H)|(simp only [hji4] at H ⊢;exact H)
 by_cases c5:0≤(ji4)
 ·rw [if_pos c5] at H
  have c5b0:decide (0≤(ji4))=true:=decide_eq_true c5
  clear c5
  by_cases c6:(ji4)<(l0.length:Int)
  ·rw [if_pos c6] at H
   have c6b0:decide ((ji4)<(l0.length:Int))=true:=decide_eq_true c6
   clear c6
   obtain rfl:=Option.some.inj H
   have p902:0≤((ji4):Int):=of_decide_eq_true (by first|(with_reducible assumption)|assumption)
   have q902:(ji4)<(l0.length:Int):=of_decide_eq_true (by first|(with_reducible assumption)|assumption)
   obtain ⟨ad902,e902,hx902_0⟩:=Kd.at_int HR0.out (ji4) p902 q902
   cases e902
   replace p902:=eq_true p902
   replace q902:=eq_true q902
   go_enter Try.func64,Try.ntmps64
   go_wp2
   go_ret
   exact ⟨by first|rfl|(simp;done)|(simp only [← hji4] <;> (first|rfl|simp))|(simp [*];done),by repeat (first|exact Drawn0.refl _|apply Drawn0.step)⟩
  rw [if_neg c6] at H
  exact absurd H (by simp)
 rw [if_neg c5] at H
 exact absurd H (by simp)
end Go.Proofs.Ytpdnabhpkdchjaa.P
namespace Go.Proofs.Ytpdnabhpkdchjaa.P
open Go.RowKit Go.Proofs.YtpdnabhpkdchjaaW.PrintWords Go.Proofs.YtpdnabhpkdchjaaW.PrintLast
set_option linter.unusedVariables false
def wB (code : List Int) (i : Int) : Int := (laws_wByte.f code i).getD 0
theorem wB_all {code : List Int} (hb : ∀ x ∈ code, 0 ≤ x ∧ x < 256) {i : Int} (hi : 0 ≤ i) : laws_wByte.f code i = some (wB code i) ∧ 0 ≤ wB code i ∧ wB code i < 256 := by
  unfold wB laws_wByte.f
  by_cases h : (code.length : Int) = 0
  · rw [if_pos h]; exact ⟨rfl, by decide, by decide⟩
  · have ht := tmod_in (x := i) (m := (code.length : Int)) hi (by omega)
    rw [if_neg h, if_pos ht.1, if_pos ht.2]
    have hm : rd code (Int.tmod i (code.length : Int)) ∈ code := by
      have hl : (Int.tmod i (code.length : Int)).toNat < code.length := by omega
      rw [rd, List.getD_eq_getElem?_getD, List.getElem?_eq_getElem hl, Option.getD_some]
      exact List.getElem_mem hl
    have hx := hb _ hm
    rw [wrap_id (by omega) (by omega)]
    exact ⟨rfl, hx.1, hx.2⟩
theorem wB_in {code : List Int} (hb : ∀ x ∈ code, 0 ≤ x ∧ x < 256) {i : Int} (hi : 0 ≤ i) : 0 ≤ wB code i ∧ wB code i < 256 := (wB_all hb hi).2
theorem wB_is {M : Option Addr} {mc : Nat} {code : List Int} {i : Int} (w : World) (hr : Kd.C (Kd.int .u8) w M code.length code) (hc : code.length ≤ mc) (hb : ∀ x ∈ code, 0 ≤ x ∧ x < 256) (hi : 0 ≤ i) :
    Calls Try.prog 64 #[.slice M code.length mc, .int .i64 i] w fun e w' => e = .returned (.int .i64 (wB code i)) ∧ Below w.heap.size w w' :=
  (laws_wByte.calls M mc code i _ w hr hc (wB_all hb hi).1).mono fun e w' ⟨he, hd⟩ => ⟨he, hd.below⟩
end Go.Proofs.Ytpdnabhpkdchjaa.P
namespace Go.Proofs.Ytpdnabhpkdchjaa.P
open Go.RowKit Go.Proofs.YtpdnabhpkdchjaaW.PrintWords Go.Proofs.YtpdnabhpkdchjaaW.PrintLast
set_option linter.unusedVariables false
set_option linter.unusedSimpArgs false
theorem w_small {x : Int} (h0 : -1000000 ≤ x) (h1 : x ≤ 1000000) : wrap64 x = x := wrap_id (by omega) (by omega)
end Go.Proofs.Ytpdnabhpkdchjaa.P
namespace Go.Proofs.Ytpdnabhpkdchjaa.P
open Go.RowKit Go.Proofs.YtpdnabhpkdchjaaW.PrintWords Go.Proofs.YtpdnabhpkdchjaaW.PrintLast
set_option linter.unusedVariables false
set_option linter.unusedSimpArgs false
structure SwAsk (n k : Nat) (s0 s1 s2 : S46) (c1 c2 : Int) (lost : Nat → Prop) : Prop where
  i : SwI n (List.replicate (n + 1) false) 3 lost True [] s2
  sub : ∀ j, lost j → besideK k j
  sup : ∀ j, besideK k j → lost j ∨ (j = k ∧ c2 = 0) ∨ (j + 1 = k ∧ c1 = 0)
  a0 : c1 = 0 → ¬ lost (k - 1) ∧ (rd_T50 s2.f1 ((k - 1 : Nat) : Int)).f3 = true
  a4 : c1 = 4 → lost (k - 1)
  b0 : c2 = 0 → ¬ lost k ∧ (rd_T50 s2.f1 (k : Int)).f3 = true
  b4 : c2 = 4 → lost k
  ca : c1 = 0 ∨ c1 = 4
  cb : c2 = 0 ∨ c2 = 4
theorem sw_ask {n k : Nat} (h1 : 1 ≤ n) (h2 : n ≤ 60) (hk : 1 ≤ k ∧ k < n) {s : S46} (h : SwI n (List.replicate (n + 1) false) 3 (besideK k) True [] s) :
    ∃ lost, SwAsk n k s (runStep (n : Int) (lineC n) s ⟨5, ((k - 1 : Nat) : Int), 0⟩).f1 (runStep (n : Int) (lineC n) (runStep (n : Int) (lineC n) s ⟨5, ((k - 1 : Nat) : Int), 0⟩).f1 ⟨5, (k : Int), 0⟩).f1 (runStep (n : Int) (lineC n) s ⟨5, ((k - 1 : Nat) : Int), 0⟩).f0 (runStep (n : Int) (lineC n) (runStep (n : Int) (lineC n) s ⟨5, ((k - 1 : Nat) : Int), 0⟩).f1 ⟨5, (k : Int), 0⟩).f0 lost := by
  rcases sw_reset h1 h2 (i := k - 1) (by omega) (by decide) h with ⟨a1, a2, a3, a4⟩ | ⟨a1, a2, a3⟩
  · rcases sw_reset h1 h2 (i := k) hk.2 (by decide) a2 with ⟨b1, b2, b3, b4⟩ | ⟨b1, b2, b3⟩
    · refine ⟨_, b2, fun j hj => hj.1.1, fun j hj => ?_, fun _ => ⟨fun q => q.1.2 rfl, ?_⟩, fun q => by rw [a1] at q; exact absurd q (by decide), fun _ => ⟨fun q => q.2 rfl, b3⟩, fun q => by rw [b1] at q; exact absurd q (by decide), .inl a1, .inl b1⟩
      · unfold besideK at hj
        rcases hj with hj | hj
        · exact .inr (.inl ⟨hj, b1⟩)
        · exact .inr (.inr ⟨hj, a1⟩)
      · rw [b4 (k - 1) (by omega) (by omega)]; exact a3
    · refine ⟨_, b3, fun j hj => hj.1, fun j hj => ?_, fun _ => ⟨fun q => q.2 rfl, ?_⟩, fun q => by rw [a1] at q; exact absurd q (by decide), fun q => by rw [b1] at q; exact absurd q (by decide), fun _ => ⟨.inl rfl, by omega⟩, .inl a1, .inr b1⟩
      · by_cases e : j = k - 1
        · exact .inr (.inr ⟨by omega, a1⟩)
        · exact .inl ⟨hj, e⟩
      · rw [b2]; exact a3
  · rcases sw_reset h1 h2 (i := k) hk.2 (by decide) a3 with ⟨b1, b2, b3, b4⟩ | ⟨b1, b2, b3⟩
    · refine ⟨_, b2, fun j hj => hj.1, fun j hj => ?_, fun q => by rw [a1] at q; exact absurd q (by decide), fun _ => ⟨.inr (by omega), by omega⟩, fun _ => ⟨fun q => q.2 rfl, b3⟩, fun q => by rw [b1] at q; exact absurd q (by decide), .inr a1, .inl b1⟩
      by_cases e : j = k
      · exact .inr (.inl ⟨e, b1⟩)
      · exact .inl ⟨hj, e⟩
    · exact ⟨_, b3, fun j hj => hj, fun j hj => .inl hj, fun q => by rw [a1] at q; exact absurd q (by decide), fun _ => .inr (by omega), fun q => by rw [b1] at q; exact absurd q (by decide), fun _ => .inl rfl, .inr a1, .inr b1⟩
structure SwF (code : List Int) (nn k K : Nat) (nm km : Int) (lc : List S88) (pc : List S143) (ax : List Int) (ea eb es l1 l2 lf gf : List S56) : Prop where
  s1 : wrap64 (2 + Int.tmod (wB code 0) 5) = (nn : Int)
  s2 : wrap64 ((nn : Int) - 1) = nm
  s3 : wrap64 (1 + Int.tmod (wB code 1) nm) = (k : Int)
  s4 : Int.tmod (wB code 2) 30 = (K : Int)
  s5 : wrap64 ((k : Int) - 1) = km
  ne : nm ≠ 0
  n6 : 2 ≤ nn ∧ nn ≤ 6
  kk : 1 ≤ k ∧ k < nn
  km_ : km = ((k - 1 : Nat) : Int)
  k29 : K ≤ 29
  lc_ : lc = lineC nn
  pc_ : pc = lineP nn 50
  ax_ : ax = axK (K + 1)
  len : lc.length = nn + 1 ∧ pc.length = nn + 1 ∧ ax.length = K + 1
  lo : layoutOk (nn : Int) lc = 0
  pa : passing (nn : Int) lc pc ax 0 120 = ea
  pb : passing (nn : Int) lc pc ax 120 1000 = eb
  p2 : passing (nn : Int) lc pc [0, 9, 12] 0 1000 = es
  l1_ : l1 = ((ea ++ [⟨3, (k : Int), 0⟩]) ++ eb) ++ [⟨4, (k : Int), 0⟩]
  l2_ : l2 = l1 ++ [⟨5, km, 0⟩, ⟨5, (k : Int), 0⟩]
  lf_ : lf = l1 ++ es
  gf_ : gf = l2 ++ es
  lens : ea.length + eb.length ≤ 210 ∧ es.length ≤ 21 ∧ l1.length = ea.length + eb.length + 2 ∧ l2.length = l1.length + 2 ∧ lf.length = l1.length + es.length ∧ gf.length = l1.length + 2 + es.length
  rl : (run (nn : Int) lc lf).length = lf.length ∧ (run (nn : Int) lc gf).length = gf.length
  secs : ∀ i : Nat, i < gf.length → (rd_T48 (run (nn : Int) lc gf) (i : Int)).f1.f1.length = nn
  secl : ∀ i : Nat, i < lf.length → (rd_T48 (run (nn : Int) lc lf) (i : Int)).f1.f1.length = nn
  cods : ∀ j : Nat, j < 2 → (rd_T48 (run (nn : Int) lc gf) ((l1.length + j : Nat) : Int)).f0 = 0 ∨ (rd_T48 (run (nn : Int) lc gf) ((l1.length + j : Nat) : Int)).f0 = 4
  old : ∀ i : Nat, i < nn → ((rd_T50 (rd_T48 (run (nn : Int) lc lf) ((lf.length - 1 : Nat) : Int)).f1.f1 (i : Int)).f0 = 1 ↔ (i = k ∨ i + 1 = k))
  swept : ∀ j : Nat, j < 2 → (rd_T48 (run (nn : Int) lc gf) ((l1.length + j : Nat) : Int)).f0 = 0 → (rd_T50 (rd_T48 (run (nn : Int) lc gf) ((l1.length + 1 : Nat) : Int)).f1.f1 ((k - 1 + j : Nat) : Int)).f0 = 2 ∧ (rd_T50 (rd_T48 (run (nn : Int) lc gf) ((gf.length - 1 : Nat) : Int)).f1.f1 ((k - 1 + j : Nat) : Int)).f0 = 0
  kept : ∀ j : Nat, j < 2 → (rd_T48 (run (nn : Int) lc gf) ((l1.length + j : Nat) : Int)).f0 = 4 → (rd_T50 (rd_T48 (run (nn : Int) lc gf) ((gf.length - 1 : Nat) : Int)).f1.f1 ((k - 1 + j : Nat) : Int)).f0 = 1
theorem run_rd {n : Int} {l : List S88} {es : List S56} (hl : layoutOk n l = 0) (he : es.length ≤ 2000) (i : Nat) (hi : i < es.length) : rd_T48 (run n l es) (i : Int) = runStep n l (stAt n l es i) (rd_T56 es (i : Int)) ∧ (rd_T48 (run n l es) (i : Int)).f1 = stAt n l es (i + 1) := by
  rw [run, if_pos ⟨hl, he⟩, rd_runTo n l es _ i hi]
  exact ⟨rfl, (stAt_succ n l es i hi).symm⟩
theorem stAt_app (n : Int) (l : List S88) (a b : List S56) (m : Nat) : stAt n l (a ++ b) (a.length + m) = goS n l (goS n l (st0 n l) a) (b.take m) := by
  rw [stAt_go, List.take_length_add_append, goS_app]
theorem axes_in {K : Nat} (h : K ≤ 29) : ∀ i : Nat, i < (axK (K + 1)).length → 0 ≤ rd (axK (K + 1)) (i : Int) ∧ rd (axK (K + 1)) (i : Int) ≤ 100 := by
  intro i hi
  rw [axK_len] at hi
  rw [axK_rd _ i hi]
  omega
theorem three_in : ∀ i : Nat, i < ([0, 9, 12] : List Int).length → 0 ≤ rd [0, 9, 12] (i : Int) ∧ rd [0, 9, 12] (i : Int) ≤ 100
  | 0, _ => by decide
  | 1, _ => by decide
  | 2, _ => by decide
  | i + 3, h => absurd h (by simp)
theorem sw_facts {code : List Int} (hb : ∀ x ∈ code, 0 ≤ x ∧ x < 256) : ∃ nn k K nm km lc pc ax ea eb es l1 l2 lf gf, SwF code nn k K nm km lc pc ax ea eb es l1 l2 lf gf := by
  have m0 := tmod_in (m := 5) (wB_in hb (i := 0) (by decide)).1 (by decide)
  obtain ⟨nn, hnn⟩ : ∃ nn : Nat, (nn : Int) = 2 + Int.tmod (wB code 0) 5 := ⟨(2 + Int.tmod (wB code 0) 5).toNat, by omega⟩
  have n6 : 2 ≤ nn ∧ nn ≤ 6 := by omega
  have m1 := tmod_in (m := (nn : Int) - 1) (wB_in hb (i := 1) (by decide)).1 (by omega)
  obtain ⟨k, hkk⟩ : ∃ k : Nat, (k : Int) = 1 + Int.tmod (wB code 1) ((nn : Int) - 1) := ⟨(1 + Int.tmod (wB code 1) ((nn : Int) - 1)).toNat, by omega⟩
  have kk : 1 ≤ k ∧ k < nn := by omega
  have m2 := tmod_in (m := 30) (wB_in hb (i := 2) (by decide)).1 (by decide)
  obtain ⟨K, hK⟩ : ∃ K : Nat, (K : Int) = Int.tmod (wB code 2) 30 := ⟨(Int.tmod (wB code 2) 30).toNat, by omega⟩
  have k29 : K ≤ 29 := by omega
  have h1 : 1 ≤ nn := by omega
  have h2 : nn ≤ 60 := by omega
  have hlo := line_ok h1 h2
  have hpas : ∀ (ax : List Int) (fr tt : Int), axlesTo ax ax.length = true → ax.length ≤ 30 → 0 ≤ fr → fr ≤ tt → tt ≤ 1000 → passing (nn : Int) (lineC nn) (lineP nn 50) ax fr tt = trainEvs (lineP nn 50) ax fr tt := fun ax fr tt ha hl f0 f1 f2 =>
    line_pass h1 h2 (by decide) (by omega) ha (by omega) f0 f1 (by omega)
  have hax : axlesTo (axK (K + 1)) (axK (K + 1)).length = true := by rw [axK_len]; exact axK_ok (by omega) _ (Nat.le_refl _)
  have hal : (axK (K + 1)).length ≤ 30 := by rw [axK_len]; omega
  have hlen : ∀ (ax : List Int) (m : Nat), ax.length ≤ m → (trainEvs (lineP nn 50) ax 0 1000).length ≤ m * 7 := fun ax m h => Nat.le_trans train_len (Nat.mul_le_mul h (by omega))
  have hL := hlen _ 30 hal
  have hE := hlen [0, 9, 12] 3 (Nat.le_refl _)
  have hcut := trainEvs_cut (lineP nn 50) (axK (K + 1)) (fr := 0) (mid := 120) (tt := 1000) (by decide) (by decide)
  have hone := sw_one h1 n6.2 kk (axes_in k29) (by omega) hcut
  obtain ⟨ea, hea⟩ : ∃ ea, ea = trainEvs (lineP nn 50) (axK (K + 1)) 0 120 := ⟨_, rfl⟩
  obtain ⟨eb, heb⟩ : ∃ eb, eb = trainEvs (lineP nn 50) (axK (K + 1)) 120 1000 := ⟨_, rfl⟩
  obtain ⟨es, hes⟩ : ∃ es, es = trainEvs (lineP nn 50) [0, 9, 12] 0 1000 := ⟨_, rfl⟩
  rw [← hea, ← heb] at hcut hone
  have hab : ea.length + eb.length ≤ 210 := by rw [← List.length_append, hcut]; exact hL
  have hes1 : es.length ≤ 21 := by rw [hes]; exact hE
  obtain ⟨l1, hl1⟩ : ∃ l1, l1 = swList k ea eb := ⟨_, rfl⟩
  have hl1n : l1.length = ea.length + eb.length + 2 := by rw [hl1, swList]; simp; omega
  rw [← hl1] at hone
  obtain ⟨lost, A⟩ := sw_ask h1 h2 kk hone
  obtain ⟨s0, hs0⟩ : ∃ s0, s0 = goS (nn : Int) (lineC nn) (st0 (nn : Int) (lineC nn)) l1 := ⟨_, rfl⟩
  rw [← hs0] at hone A
  have lfn : (l1 ++ es).length = l1.length + es.length := List.length_append
  have lfe : stAt (nn : Int) (lineC nn) (l1 ++ es) (l1 ++ es).length = goS (nn : Int) (lineC nn) s0 es := by
    rw [lfn, stAt_app, ← hs0, List.take_length]
  have hlf := stAt_ok hlo (l1 ++ es) (l1 ++ es).length
  rw [lfe, hes] at hlf
  have gfe : l1 ++ [⟨5, ((k - 1 : Nat) : Int), 0⟩, ⟨5, (k : Int), 0⟩] ++ es = l1 ++ (⟨5, ((k - 1 : Nat) : Int), 0⟩ :: ⟨5, (k : Int), 0⟩ :: es) := by simp
  obtain ⟨gf, hgf⟩ : ∃ gf : List S56, gf = l1 ++ (⟨5, ((k - 1 : Nat) : Int), 0⟩ :: ⟨5, (k : Int), 0⟩ :: es) := ⟨_, rfl⟩
  have gfn : gf.length = l1.length + 2 + es.length := by rw [hgf]; simp; omega
  have g0 : stAt (nn : Int) (lineC nn) gf l1.length = s0 := by
    have := stAt_app (nn : Int) (lineC nn) l1 (⟨5, ((k - 1 : Nat) : Int), 0⟩ :: ⟨5, (k : Int), 0⟩ :: es) 0
    rw [hgf]
    rw [Nat.add_zero] at this
    rw [this, ← hs0]; rfl
  have g1 : stAt (nn : Int) (lineC nn) gf (l1.length + 1) = (runStep (nn : Int) (lineC nn) s0 ⟨5, ((k - 1 : Nat) : Int), 0⟩).f1 := by
    rw [hgf, stAt_app, ← hs0]; rfl
  have g2 : stAt (nn : Int) (lineC nn) gf (l1.length + 1 + 1) = (runStep (nn : Int) (lineC nn) (runStep (nn : Int) (lineC nn) s0 ⟨5, ((k - 1 : Nat) : Int), 0⟩).f1 ⟨5, (k : Int), 0⟩).f1 := by
    rw [hgf, Nat.add_assoc, stAt_app, ← hs0]; rfl
  have g3 : stAt (nn : Int) (lineC nn) gf gf.length = goS (nn : Int) (lineC nn) (runStep (nn : Int) (lineC nn) (runStep (nn : Int) (lineC nn) s0 ⟨5, ((k - 1 : Nat) : Int), 0⟩).f1 ⟨5, (k : Int), 0⟩).f1 es := by
    rw [gfn, Nat.add_assoc, hgf, stAt_app, ← hs0, show (2 + es.length) = es.length + 1 + 1 by omega, List.take_succ_cons, List.take_succ_cons, List.take_length]; rfl
  have q0 : rd_T56 gf (l1.length : Int) = ⟨5, ((k - 1 : Nat) : Int), 0⟩ := by
    rw [rd56 gf l1.length (by omega)]
    simp [hgf]
  have q1 : rd_T56 gf ((l1.length + 1 : Nat) : Int) = ⟨5, (k : Int), 0⟩ := by
    rw [rd56 gf (l1.length + 1) (by omega)]
    simp [hgf]
  have hg2 := stAt_ok hlo gf (l1.length + 1 + 1)
  have hg3 := stAt_ok hlo gf gf.length
  rw [g2] at hg2
  rw [g3, hes] at hg3
  have r0 := run_rd hlo (show gf.length ≤ 2000 by omega) l1.length (by omega)
  have r1 := run_rd hlo (show gf.length ≤ 2000 by omega) (l1.length + 1) (by omega)
  have r2 := (run_rd hlo (show gf.length ≤ 2000 by omega) (gf.length - 1) (by omega)).2
  have r3 := (run_rd hlo (show (l1 ++ es).length ≤ 2000 by omega) ((l1 ++ es).length - 1) (by omega)).2
  rw [g0, q0] at r0
  rw [g1, q1, g2] at r1
  rw [show gf.length - 1 + 1 = gf.length by omega, g3, hes] at r2
  rw [show (l1 ++ es).length - 1 + 1 = (l1 ++ es).length by omega, lfe] at r3
  have TL : ∀ j : Nat, j < nn → _ := fun j hj => sw_two h1 n6.2 three_in rfl (by omega) hone j hj hlf
  have TG : ∀ j : Nat, j < nn → _ := fun j hj => sw_two h1 n6.2 three_in rfl (by omega) A.i j hj hg3
  have TM : ∀ j : Nat, j < nn → _ := fun j hj => sw_told A.i hg2 j hj
  have hcases : ∀ j : Nat, j < 2 → j = 0 ∨ j = 1 := fun j hj => by omega
  refine ⟨nn, k, K, (nn : Int) - 1, ((k - 1 : Nat) : Int), lineC nn, lineP nn 50, axK (K + 1), ea, eb, es, l1, l1 ++ [⟨5, ((k - 1 : Nat) : Int), 0⟩, ⟨5, (k : Int), 0⟩], l1 ++ es, gf,
    { s1 := by rw [← hnn]; exact w_small (by omega) (by omega), s2 := w_small (by omega) (by omega), s3 := by rw [← hkk]; exact w_small (by omega) (by omega), s4 := hK.symm, s5 := (w_small (by omega) (by omega)).trans (by omega), ne := by omega, n6 := n6, kk := kk, km_ := rfl, k29 := k29, lc_ := rfl, pc_ := rfl, ax_ := rfl,
      len := ⟨lineC_len nn, lineP_len nn 50, axK_len _⟩, lo := hlo, pa := by rw [hea]; exact hpas _ _ _ hax hal (by decide) (by decide) (by decide), pb := by rw [heb]; exact hpas _ _ _ hax hal (by decide) (by decide) (by decide), p2 := by rw [hes]; exact hpas _ _ _ (by decide) (by decide) (by decide) (by decide) (by decide),
      l1_ := hl1, l2_ := rfl, lf_ := rfl, gf_ := by rw [hgf, gfe], lens := ⟨hab, hes1, hl1n, by simp, lfn, gfn⟩, rl := ?_, secs := ?_, secl := ?_, cods := ?_, old := ?_, swept := ?_, kept := ?_ }⟩
  · rw [run, if_pos ⟨hlo, by omega⟩, run, if_pos ⟨hlo, by omega⟩]
    exact ⟨runTo_length _ _ _ _, runTo_length _ _ _ _⟩
  · intro i hi
    rw [(run_rd hlo (by omega) i hi).2, (stAt_len _ _ _ _).1]; rfl
  · intro i hi
    rw [(run_rd hlo (by omega) i hi).2, (stAt_len _ _ _ _).1]; rfl
  · intro j hj
    rcases hcases j hj with rfl | rfl
    · rw [Nat.add_zero, r0.1]; exact A.ca
    · rw [r1.1]; exact A.cb
  · intro i hi
    rw [r3, hes]
    have t := TL i hi
    by_cases hc : besideK k i
    · exact ⟨fun _ => hc, fun _ => t.1 hc⟩
    · rw [t.2 hc]
      exact ⟨fun q => absurd q (by decide), fun q => absurd q hc⟩
  · intro j hj h0
    rcases hcases j hj with rfl | rfl
    · rw [Nat.add_zero, r0.1] at h0
      obtain ⟨u1, u2⟩ := A.a0 h0
      rw [show k - 1 + 0 = k - 1 from rfl, r1.2, r2, (TM (k - 1) (by omega)).2 u1 (inS_nil _), u2]
      exact ⟨rfl, (TG (k - 1) (by omega)).2 u1⟩
    · rw [r1.1] at h0
      obtain ⟨u1, u2⟩ := A.b0 h0
      rw [show k - 1 + 1 = k by omega, r1.2, r2, (TM k kk.2).2 u1 (inS_nil _), u2]
      exact ⟨rfl, (TG k kk.2).2 u1⟩
  · intro j hj h4
    rcases hcases j hj with rfl | rfl
    · rw [Nat.add_zero, r0.1] at h4
      rw [show k - 1 + 0 = k - 1 from rfl, r2]
      exact (TG (k - 1) (by omega)).1 (A.a4 h4)
    · rw [r1.1] at h4
      rw [show k - 1 + 1 = k by omega, r2]
      exact (TG k kk.2).1 (A.b4 h4)
end Go.Proofs.Ytpdnabhpkdchjaa.P
namespace Go.Proofs.Ytpdnabhpkdchjaa.P
open Go Go.RowKit Go.Proofs.YtpdnabhpkdchjaaW.PrintWords Go.Proofs.YtpdnabhpkdchjaaW.PrintLast Go.Proofs.YtpdnabhpkdchjaaW.PrintMore
set_option linter.unusedVariables false
set_option linter.unusedSimpArgs false
theorem sw_nums {L1 L2 E LF GF : Nat} (h1 : L1 ≤ 212) (h0 : 2 ≤ L1) (h2 : E ≤ 21) (h3 : L2 = L1 + 2) (h4 : LF = L1 + E) (h5 : GF = L1 + 2 + E) :
    wrap64 ((L2 : Int) - 1) = ((L1 + 1 : Nat) : Int) ∧ wrap64 ((L2 : Int) + (E : Int)) = (GF : Int) ∧ wrap64 ((GF : Int) - 1) = ((GF - 1 : Nat) : Int) ∧ wrap64 ((LF : Int) - 1) = ((LF - 1 : Nat) : Int) ∧ wrap64 (((L1 + 1 : Nat) : Int) - 1) = (L1 : Int) ∧ ∀ j : Nat, j < 2 → wrap64 ((L1 : Int) + (j : Int)) = ((L1 + j : Nat) : Int) :=
  ⟨(w_small (by omega) (by omega)).trans (by omega), (w_small (by omega) (by omega)).trans (by omega), (w_small (by omega) (by omega)).trans (by omega), (w_small (by omega) (by omega)).trans (by omega), (w_small (by omega) (by omega)).trans (by omega), fun j hj => (w_small (by omega) (by omega)).trans (by omega)⟩
theorem got_cells {wx : World} {b0 : Nat} {ok : Nat → Prop} {A : Option Addr} {c : Nat} {rg : List S48} (HS : Kd.S k48 48 wx b0 ok (.slice A rg.length c) rg) (h0 : 0 < rg.length) :
    ∃ ad, A = some ad ∧ ∀ i : Nat, i < rg.length → ∃ A2 c2, wx.cell? (ad.add (i * 4)) = some (.int .i64 (rd_T48 rg (i : Int)).f0) ∧ wx.cell? ⟨(ad.add (i * 4)).block, (ad.add (i * 4)).off + 2, none⟩ = some (.slice A2 (rd_T48 rg (i : Int)).f1.f1.length c2) ∧ Kd.C k50 wx A2 (rd_T48 rg (i : Int)).f1.f1.length (rd_T48 rg (i : Int)).f1.f1 := by
  obtain ⟨ad, -, -, -, -, e, -⟩ := at_T48 (Kd.S_reads' HS).2.2 (0 : Int) (by omega) (by omega)
  subst e
  refine ⟨ad, rfl, fun i hi => ?_⟩
  obtain ⟨ad', A2, c2, A3, c3, e, x0, x1, x2, x3, l2, g2, l3, g3⟩ := at_T48 (Kd.S_reads' HS).2.2 (i : Int) (by omega) (by omega)
  cases e
  rw [Int.toNat_natCast] at x0 x2
  exact ⟨A2, c2, x0, x2, g2⟩
structure SwG (wx : World) (nn k L2 E : Nat) (ad ado : Addr) (rf rg : List S48) (M0 MI GL FL : Nat) (Am Az Ao : Option Addr) (cm cz co : Nat) (sm sz so : List S50) (d0 d1 : Int) : Prop where
  a1 : wrap64 ((L2 : Int) - 1) = (MI : Int)
  a2 : wrap64 ((L2 : Int) + (E : Int)) = (rg.length : Int)
  a4 : ((rf.length : Int) == 0) = false
  a5 : wrap64 ((rg.length : Int) - 1) = (GL : Int)
  a6 : wrap64 ((rf.length : Int) - 1) = (FL : Int)
  a7 : wrap64 ((MI : Int) - 1) = (M0 : Int)
  a9 : ∀ j : Nat, j < 2 → wrap64 ((M0 : Int) + (j : Int)) = ((M0 + j : Nat) : Int) ∧ (0 : Int) ≤ ((M0 + j : Nat) : Int) ∧ ((M0 + j : Nat) : Int) < (rg.length : Int)
  hnf : rf ≠ []
  hng : rg ≠ []
  q0 : (0 : Int) ≤ (MI : Int)
  q1 : (MI : Int) < (rg.length : Int)
  q2 : (0 : Int) ≤ (GL : Int)
  q3 : (GL : Int) < (rg.length : Int)
  q4 : (0 : Int) ≤ (FL : Int)
  q5 : (FL : Int) < (rf.length : Int)
  q6 : (0 : Int) ≤ (M0 : Int)
  q7 : (M0 : Int) < (rg.length : Int)
  x00 : wx.cell? (ad.add (M0 * 4)) = some (.int .i64 d0)
  xm0 : wx.cell? (ad.add (MI * 4)) = some (.int .i64 d1)
  xm2 : wx.cell? ⟨(ad.add (MI * 4)).block, (ad.add (MI * 4)).off + 2, none⟩ = some (.slice Am nn cm)
  xz2 : wx.cell? ⟨(ad.add (GL * 4)).block, (ad.add (GL * 4)).off + 2, none⟩ = some (.slice Az nn cz)
  xo2 : wx.cell? ⟨(ado.add (FL * 4)).block, (ado.add (FL * 4)).off + 2, none⟩ = some (.slice Ao nn co)
  gm : Kd.C k50 wx Am nn sm
  gz : Kd.C k50 wx Az nn sz
  go_ : Kd.C k50 wx Ao nn so
  cells : ∀ j : Nat, j < 2 → wx.cell? (ad.add ((M0 + j) * 4)) = some (.int .i64 (rd_T48 rg ((M0 + j : Nat) : Int)).f0)
  cods : ∀ j : Nat, j < 2 → (rd_T48 rg ((M0 + j : Nat) : Int)).f0 = 0 ∨ (rd_T48 rg ((M0 + j : Nat) : Int)).f0 = 4
  cod0 : d0 = 0 ∨ d0 = 4
  cod1 : d1 = 0 ∨ d1 = 4
  old : ∀ i : Nat, i < nn → ((rd_T50 so (i : Int)).f0 = 1 ↔ (i = k ∨ i + 1 = k))
  swept : ∀ j : Nat, j < 2 → (rd_T48 rg ((M0 + j : Nat) : Int)).f0 = 0 → (rd_T50 sm ((k - 1 + j : Nat) : Int)).f0 = 2 ∧ (rd_T50 sz ((k - 1 + j : Nat) : Int)).f0 = 0
  kept : ∀ j : Nat, j < 2 → (rd_T48 rg ((M0 + j : Nat) : Int)).f0 = 4 → (rd_T50 sz ((k - 1 + j : Nat) : Int)).f0 = 1
theorem sw_got {code : List Int} {nn k K : Nat} {nm km : Int} {lc : List S88} {pc : List S143} {ax : List Int} {ea eb es l1 l2 lf gf : List S56} {wx : World} {b0 b1 : Nat} {ok0 ok1 : Nat → Prop} {A B : Option Addr} {c d : Nat} {rf rg : List S48}
    (T : SwF code nn k K nm km lc pc ax ea eb es l1 l2 lf gf) (HG : Kd.S k48 48 wx b0 ok0 (.slice A rg.length c) rg) (HF : Kd.S k48 48 wx b1 ok1 (.slice B rf.length d) rf) (hg : rg = run (nn : Int) lc gf) (hf : rf = run (nn : Int) lc lf) :
    ∃ ad ado M0 MI GL FL Am Az Ao cm cz co sm sz so d0 d1, A = some ad ∧ B = some ado ∧ SwG wx nn k l2.length es.length ad ado rf rg M0 MI GL FL Am Az Ao cm cz co sm sz so d0 d1 := by
  have E1 : rg.length = gf.length := by rw [hg]; exact T.rl.2
  have E2 : rf.length = lf.length := by rw [hf]; exact T.rl.1
  obtain ⟨z1, z2, z3, z4, z5, z6⟩ := T.lens
  have i0 : l1.length < rg.length := by omega
  have i1 : l1.length + 1 < rg.length := by omega
  have i2 : gf.length - 1 < rg.length := by omega
  have i3 : lf.length - 1 < rf.length := by omega
  have j1 : l1.length + 1 < gf.length := by omega
  have j2 : gf.length - 1 < gf.length := by omega
  have j3 : lf.length - 1 < lf.length := by omega
  have hin : ∀ j : Nat, j < 2 → l1.length + j < rg.length := fun j hj => by omega
  have NUMS := Aside0.mk (sw_nums (L1 := l1.length) (L2 := l2.length) (E := es.length) (LF := lf.length) (GF := gf.length) (by omega) (by omega) z2 z4 z5 z6)
  obtain ⟨ad, eA, GC⟩ := got_cells HG (Nat.lt_of_le_of_lt (Nat.zero_le _) i0)
  obtain ⟨ado, eB, FC⟩ := got_cells HF (Nat.lt_of_le_of_lt (Nat.zero_le _) i3)
  obtain ⟨Am, cm, xm0, xm2, gm⟩ := GC _ i1
  obtain ⟨Az, cz, -, xz2, gz⟩ := GC _ i2
  obtain ⟨Ao, co, -, xo2, go⟩ := FC _ i3
  obtain ⟨-, -, x00, -⟩ := GC _ i0
  have lm : (rd_T48 rg ((l1.length + 1 : Nat) : Int)).f1.f1.length = nn := by rw [hg]; exact T.secs _ j1
  have lz : (rd_T48 rg ((gf.length - 1 : Nat) : Int)).f1.f1.length = nn := by rw [hg]; exact T.secs _ j2
  have lo : (rd_T48 rf ((lf.length - 1 : Nat) : Int)).f1.f1.length = nn := by rw [hf]; exact T.secl _ j3
  rw [lm] at xm2 gm
  rw [lz] at xz2 gz
  rw [lo] at xo2 go
  have hne : rf ≠ [] := fun e => by rw [e] at i3; exact Nat.not_lt_zero _ i3
  obtain ⟨a1, a2, a5, a6, a7, a9⟩ := NUMS.out
  refine ⟨ad, ado, l1.length, l1.length + 1, gf.length - 1, lf.length - 1, Am, Az, Ao, cm, cz, co, _, _, _, _, _, eA, eB,
    { a1 := a1, a2 := by rw [E1]; exact a2, a4 := by simp [hne], a5 := by rw [E1]; exact a5, a6 := by rw [E2]; exact a6, a7 := a7, a9 := fun j hj => ⟨a9 j hj, Int.natCast_nonneg _, Int.ofNat_lt.2 (hin j hj)⟩, hnf := hne, hng := fun e => by rw [e] at i0; exact Nat.not_lt_zero _ i0,
      q0 := Int.natCast_nonneg _, q1 := Int.ofNat_lt.2 i1, q2 := Int.natCast_nonneg _, q3 := Int.ofNat_lt.2 i2, q4 := Int.natCast_nonneg _, q5 := Int.ofNat_lt.2 i3, q6 := Int.natCast_nonneg _, q7 := Int.ofNat_lt.2 i0, x00 := x00, xm0 := xm0, xm2 := xm2, xz2 := xz2, xo2 := xo2, gm := gm, gz := gz, go_ := go,
      cells := fun j hj => (GC _ (hin j hj)).elim fun _ h => h.elim fun _ h => h.1, cods := fun j hj => by rw [hg]; exact T.cods j hj, cod0 := by have h := T.cods 0 (by decide); rw [← hg] at h; exact h, cod1 := by have h := T.cods 1 (by decide); rw [← hg] at h; exact h,
      old := fun i hi => by rw [hf]; exact T.old i hi, swept := fun j hj h => by rw [hg] at h ⊢; exact T.swept j hj h, kept := fun j hj h => by rw [hg] at h ⊢; exact T.kept j hj h }⟩
end Go.Proofs.Ytpdnabhpkdchjaa.P
namespace Go.Proofs.Ytpdnabhpkdchjaa.P
open Go.RowKit Go.Proofs.YtpdnabhpkdchjaaW.PrintWords Go.Proofs.YtpdnabhpkdchjaaW.PrintLast Go.Proofs.YtpdnabhpkdchjaaW.PrintMore
set_option linter.unusedVariables false
section
variable {n : Int} {A : Option Addr} {c : Nat} {l : List S88} {w : World}
theorem lay_is (hr : Kd.C k88 w A l.length l) (hc : l.length ≤ c) : Calls Try.prog 25 #[.agg #[.int .i64 n, .slice A l.length c]] w fun e w' => e = .returned (.int .i64 (layoutOk n l)) ∧ Below w.heap.size w w' :=
  impl_LayoutOk.calls n A c l _ w hr hc rfl
theorem slay_is (hr : Kd.C k88 w A l.length l) (hc : l.length ≤ c) : Calls Try.prog 23 #[.agg #[.int .i64 n, .slice A l.length c]] w fun e w' => e = .returned (.int .i64 (layoutOk n l)) ∧ Below w.heap.size w w' := by
  obtain ⟨k, h⟩ := (specLayoutOk_ev n l).rounds
  exact spec_LayoutOk.calls k n A c l _ w hr hc h
theorem ev_is (op of dir : Int) (hr : Kd.C k88 w A l.length l) (hc : l.length ≤ c) : Calls Try.prog 36 #[.agg #[.int .i64 n, .slice A l.length c], .agg #[.int .i64 op, .int .i64 of, .int .i64 dir]] w fun e w' => e = .returned (.bool (eventOk n l op of dir)) ∧ Below w.heap.size w w' := by
  obtain ⟨k, h⟩ := (implEventOk_ev n l op of dir).rounds
  exact impl_EventOk.calls k n A c l op of dir _ w hr hc h
theorem ev_at {b : Bool} (op of dir : Int) (hb : eventOk n l op of dir = b) (hr : Kd.C k88 w A l.length l) (hc : l.length ≤ c) : Calls Try.prog 36 #[.agg #[.int .i64 n, .slice A l.length c], .agg #[.int .i64 op, .int .i64 of, .int .i64 dir]] w fun e w' => e = .returned (.bool b) ∧ Below w.heap.size w w' := hb ▸ ev_is op of dir hr hc
theorem lay_at {k : Int} (hk : layoutOk n l = k) (hr : Kd.C k88 w A l.length l) (hc : l.length ≤ c) : Calls Try.prog 25 #[.agg #[.int .i64 n, .slice A l.length c]] w fun e w' => e = .returned (.int .i64 k) ∧ Below w.heap.size w w' := hk ▸ lay_is hr hc
theorem sev_is (op of dir : Int) (hr : Kd.C k88 w A l.length l) (hc : l.length ≤ c) : Calls Try.prog 34 #[.agg #[.int .i64 n, .slice A l.length c], .agg #[.int .i64 op, .int .i64 of, .int .i64 dir]] w fun e w' => e = .returned (.bool (eventOk n l op of dir)) ∧ Below w.heap.size w w' := by
  obtain ⟨k, h⟩ := (specEventOk_ev n l op of dir).rounds
  exact spec_EventOk.calls k n A c l op of dir _ w hr hc h
variable {A1 : Option Addr} {c1 : Nat} {es : List S56}
end
end Go.Proofs.Ytpdnabhpkdchjaa.P
namespace Go.Proofs.Ytpdnabhpkdchjaa.P
open Go Go.RowKit Go.Proofs.YtpdnabhpkdchjaaW.PrintWords Go.Proofs.YtpdnabhpkdchjaaW.PrintLast Go.Proofs.YtpdnabhpkdchjaaW.PrintMore
set_option linter.unusedVariables false
def upto (n k : Nat) : Array Bool := (List.replicate k true ++ List.replicate (n - k) false).toArray
section
variable {P : Program} {md : Region.Mode} {ops : Array Oper} {T : Bool × List (List Nat × List Nat)} {B : List Nat} {Q : Exit → Act → World → Prop} {S : World → Prop} {ds : List Nat} {n k fuel : Nat} {N : Option Tmp} {oi : Oper} {v : Value} {a a' : Act} {w : World} {op : Op} {ty : TypeId} {pos : String} {af : Array Edge} {gu : Option (Nat × Bool)}
theorem wanted_none (hg : oi.guard = none) (y : Nat → Option Bool) : Region.wanted oi y = true := by unfold Region.wanted; rw [hg]
theorem wanted_yes {j : Nat} {u b : Bool} {y : Nat → Option Bool} (hg : oi.guard = some (j, u)) (hb : y j = some b) (he : (b == u) = true) : Region.wanted oi y = true := by
  unfold Region.wanted
  rw [hg]
  dsimp only
  rw [hb]
  cases b <;> cases u <;> first | rfl | cases he
theorem wanted_no {j : Nat} {u b : Bool} {y : Nat → Option Bool} (hg : oi.guard = some (j, u)) (hb : y j = some b) (he : (b == u) = false) : Region.wanted oi y = false := by
  unfold Region.wanted
  rw [hg]
  dsimp only
  rw [hb]
  cases b <;> cases u <;> first | rfl | cases he
theorem upto_zero (n : Nat) : Array.replicate n false = upto n 0 := by simp [upto]
theorem startK {id : Nat} (n : Nat) (hm : P.follows .mixedOrders = true) (hn : ops.size = n) (hS : S w.drew) (h : S w.drew → wpAnyLast P .any ops Q S ds n (upto n 0) a w.drew) : (Code.region id ops true).wp P Q a w := start_ (upto n 0) hm hn (upto_zero n) hS h
theorem take0 {k' : Nat} (hk : k + 1 = k') (hi : ops[k]? = some ⟨N, op, ty, pos, af, none⟩) (hT : rtab md ops = T) (hB : waitsOk T.2 B = true) (hc : takeW T B ds (upto n k).toList (upto n k').toList k = true) (hQ : ∀ c a w, Q (.panic c) (a.put N v) w → Q (.panic c) a w) (hS : S w) (hy : ∀ w, S w → (execOp a.eval ⟨N, op, ty, pos, af, none⟩).run P w = .ok (.value v) w) (ha : a.put N v = a') (h : wpAnyLast P md ops Q S ds fuel (upto n k') a' w) : wpAnyLast P md ops Q S ds (fuel + 1) (upto n k) a w :=
  take_ (upto n k') hi rfl (take_ofW hT hB hc) hQ (Or.inl ⟨wanted_none rfl _, hy⟩) hS ha h
theorem takeG {k' j : Nat} {u b : Bool} (hk : k + 1 = k') (hi : ops[k]? = some ⟨N, op, ty, pos, af, some (j, u)⟩) (hb : yielded ops a.tmps j = some b) (hT : rtab md ops = T) (hB : waitsOk T.2 B = true) (hc : takeW T B ds (upto n k).toList (upto n k').toList k = true) (hQ : ∀ c a w, Q (.panic c) (a.put N v) w → Q (.panic c) a w) (hS : S w) (hy : if (b == u) = true then ∀ w, S w → (execOp a.eval ⟨N, op, ty, pos, af, some (j, u)⟩).run P w = .ok (.value v) w else v = undef) (ha : a.put N v = a') (h : wpAnyLast P md ops Q S ds fuel (upto n k') a' w) : wpAnyLast P md ops Q S ds (fuel + 1) (upto n k) a w := by
  refine take_ (upto n k') hi rfl (take_ofW hT hB hc) hQ ?_ hS ha h
  cases he : (b == u) with
  | true => rw [he, if_pos rfl] at hy; exact Or.inl ⟨wanted_yes rfl hb he, hy⟩
  | false => rw [he, if_neg (by decide)] at hy; exact Or.inr ⟨wanted_no rfl hb he, hy⟩
theorem oneK {k' : Nat} (hk : k + 1 = k') (hi : ops[k]? = some ⟨N, op, ty, pos, af, gu⟩) (hT : rtab md ops = T) (hc : (readyT T.2 (upto n k).toList == [k] && (upto n k).toList.set k true == (upto n k').toList) = true) (hd : k ∉ ds)
    (h : ∀ K : Act → World → Prop, Shut (∀ a' w', S w' → (S w' → wpAnyLast P md ops Q S ds fuel (upto n k') a' w') → K a' w') → if Region.wanted ⟨N, op, ty, pos, af, gu⟩ (yielded ops a.tmps) = true then Oper.wp P ⟨N, op, ty, pos, af, gu⟩ a w K Q else K (a.put N undef) w) : wpAnyLast P md ops Q S ds (fuel + 1) (upto n k) a w :=
  one_ (upto n k') hi rfl (one_of hT hc) hd h
end
end Go.Proofs.Ytpdnabhpkdchjaa.P
namespace Go.Proofs.Ytpdnabhpkdchjaa.P
open Go.RowKit Go.Proofs.YtpdnabhpkdchjaaW.PrintWords Go.Proofs.YtpdnabhpkdchjaaW.PrintLast Go.Proofs.YtpdnabhpkdchjaaW.PrintMore
set_option linter.unusedVariables false
set_option linter.unusedSimpArgs false
theorem infoE56 : (Try.prog.info? 56).map (fun i => (i.zero, i.size, i.bytes)) = some (some (.agg #[(.int .i64 0), (.int .i64 0), (.int .i64 0)]), 3, 24) := by kernel_rfl
theorem fill3t {w w' : World} {g t : Nat} {x0 x1 x2 y0 y1 y2 : Value} (hx : w'.heap[g]? = some (.cells #[x0, x1, x2] t (0, 0))) (hb : Below w.heap.size w w') (hg : w.heap.size ≤ g) :
    Below w.heap.size w (((w'.setCell ⟨g, 0, none⟩ y0).setCell ⟨g, 1, none⟩ y1).setCell ⟨g, 2, none⟩ y2) ∧ (((w'.setCell ⟨g, 0, none⟩ y0).setCell ⟨g, 1, none⟩ y1).setCell ⟨g, 2, none⟩ y2).heap[g]? = some (.cells #[y0, y1, y2] t (0, 0)) :=
  ⟨below_set (j := 2) (v := y2) (below_set (j := 1) (v := y1) (below_set (j := 0) (v := y0) hb hg) hg) hg, blk_put (blk_put (blk_put hx 0 y0 rfl) 1 y1 rfl) 2 y2 rfl⟩
end Go.Proofs.Ytpdnabhpkdchjaa.P
namespace Go.Proofs.Ytpdnabhpkdchjaa.P
open Go Go.Sort Go.RowKit Go.Proofs Go.Proofs.YtpdnabhpkdchjaaW.PrintWords Go.Proofs.YtpdnabhpkdchjaaW.PrintLast Go.Proofs.YtpdnabhpkdchjaaW.PrintMore
set_option linter.unusedVariables false
set_option linter.unusedSimpArgs false
def BdM (x : S154) : Prop := (0 ≤ x.f0 ∧ x.f0 ≤ 4000000) ∧ (0 ≤ x.f1 ∧ x.f1 ≤ 4000000) ∧ (0 ≤ x.f2 ∧ x.f2 ≤ 4000000)
structure BM where
  val : S154
  bd : BdM val
instance inhBM : Inhabited BM := ⟨⟨z154, by unfold BdM z154; dsimp only; omega⟩⟩
def encM (x : BM) : List Value := [.int .i64 x.1.f0, .int .i64 x.1.f1, .int .i64 x.1.f2]
def cfM (x y : BM) : Int := if x.1.f0 - y.1.f0 = 0 then (if x.1.f1 - y.1.f1 = 0 then x.1.f2 - y.1.f2 else x.1.f1 - y.1.f1) else x.1.f0 - y.1.f0
theorem cfM_lt (x y : BM) : ltOf cfM x y = lexLt x.1 y.1 := by
  unfold ltOf cfM
  cases hq : lexLt x.1 y.1
  · rw [lexLt_not] at hq
    refine decide_eq_false ?_
    split
    · split <;> omega
    · omega
  · rw [lexLt_iff] at hq
    refine decide_eq_true ?_
    split
    · split <;> omega
    · omega
theorem cfM_swo : SWO (ltOf cfM) where
  irrefl x := by rw [cfM_lt, lexLt_irrefl]
  trans x y z h1 h2 := by rw [cfM_lt] at *; exact lexLt_trans h1 h2
  ntrans x y z h1 h2 := by
    rw [cfM_lt] at *
    rw [lexLt_not] at *
    omega
section
variable {w : World} {base e g m c : Nat} {ok : Nat → Prop} {xs : List S154}
theorem met_cells (h : Kd.R k154 e w base ok (.slice (some ⟨g, 0, none⟩) m c) xs) (i : Nat) (h1 : i < m) :
    w.cell? ⟨g, i * 3, none⟩ = some (.int .i64 (rd_T154 xs (i : Int)).f0) ∧ w.cell? ⟨g, i * 3 + 1, none⟩ = some (.int .i64 (rd_T154 xs (i : Int)).f1) ∧ w.cell? ⟨g, i * 3 + 2, none⟩ = some (.int .i64 (rd_T154 xs (i : Int)).f2) ∧ ∀ j, w.frozen? ⟨g, i * 3 + j, none⟩ = false := by
  obtain ⟨ce, hcl, hM, hcc, hfr⟩ := Kd.R_elem h z154 (i : Int) (by omega) (by omega)
  obtain rfl := k154_openM hM
  rw [Int.toNat_natCast] at hcc hfr
  exact ⟨hcc 0 _ rfl, hcc 1 _ rfl, hcc 2 _ rfl, fun j => hfr j⟩
theorem flat_at (d : Array BM) (i j : Nat) (hi : i < d.size) (hj : j < 3) : (flatK encM 3 d)[i * 3 + j]! = (encM d[i]!)[j]! := by
  rw [get_flatK _ _ _ _ (by omega), show (i * 3 + j) / 3 = i by omega, show (i * 3 + j) % 3 = j by omega]
theorem bm_get {d : Array BM} (hd : d.toList.map BM.val = xs) (i : Nat) (hi : i < d.size) : (d[i]!).1 = rd_T154 xs (i : Int) := by
  subst hd
  rw [getElem!_pos d i hi, rd_T154, Int.toNat_natCast, List.getD_eq_getElem?_getD, List.getElem?_map]
  simp [hi]
theorem met_holds (h : Kd.R k154 e w base ok (.slice (some ⟨g, 0, none⟩) m c) xs) (d : Array BM) (hd : d.toList.map BM.val = xs) (hm : m = xs.length) : HoldsK encM 3 w g 0 d := by
  intro j hj
  rw [size_flatK] at hj
  have hs : d.size = xs.length := by rw [← hd]; simp
  have hi : j / 3 < d.size := by omega
  obtain ⟨c0, c1, c2, fr⟩ := met_cells h (j / 3) (by omega)
  have hg := bm_get hd (j / 3) hi
  have e : j = j / 3 * 3 + j % 3 := by omega
  have hr : j % 3 < 3 := by omega
  generalize j / 3 = i at *
  generalize j % 3 = q at *
  subst e
  rw [Nat.zero_add]
  refine ⟨?_, fr q⟩
  rw [flat_at d i q hi hr]
  rcases (show q = 0 ∨ q = 1 ∨ q = 2 by omega) with rfl | rfl | rfl
  · rw [Nat.add_zero, c0, ← hg]; rfl
  · rw [c1, ← hg]; rfl
  · rw [c2, ← hg]; rfl
theorem heapK {n : Nat} {os : Array Obj} {cur : Array Value} {fr : Nat × Nat} (d : Array BM) (hb : w.heap[g]? = some (.cells cur e fr)) :
    (sortWorldK encM 3 w g 0 n d os).heap[g]? = some (.cells (putCells id 0 (flatK encM 3 d) cur) e fr) := by
  have hg : g < w.heap.size := (Array.getElem?_eq_some_iff.1 hb).1
  unfold sortWorldK putRowK
  rw [heap_grow_old _ _ (by simpa [putRow, mapBlock, Sort.ahead] using hg)]
  simp [putRow, mapBlock, Sort.ahead, Array.getElem?_modify, hb, onCells]
theorem grownK {n : Nat} {os : Array Obj} (d : Array BM) : w.grownBy (sortWorldK encM 3 w g 0 n d os) (some g) := by
  unfold sortWorldK putRowK
  refine ⟨rfl, rfl, rfl, by simp [grow, putRow, mapBlock, Sort.ahead], fun k hk hne => ?_⟩
  rw [heap_grow_old _ _ (by simpa [putRow, mapBlock, Sort.ahead] using hk)]
  have : g ≠ k := fun e => hne (by rw [e])
  simp [putRow, mapBlock, Sort.ahead, Array.getElem?_modify, this]
theorem take_putK (cur : Array Value) (F : Array Value) (h : F.size ≤ cur.size) : (putCells id 0 F cur).toList.take F.size = F.toList := by
  apply List.ext_getElem?
  intro j
  by_cases hj : j < F.size
  · rw [List.getElem?_take_of_lt hj, Array.getElem?_toList]
    simp [putCells, hj, show j < cur.size by omega]
  · rw [List.getElem?_take_eq_none (by omega), List.getElem?_eq_none (by simp; omega)]
theorem flat_seg (d : Array BM) (i : Nat) (hi : i < d.size) : ((flatK encM 3 d).toList.drop (i * 3)).take 3 = encM d[i]! := by
  apply List.ext_getElem?
  intro j
  by_cases hj : j < 3
  · have hs : i * 3 + j < (flatK encM 3 d).size := by rw [size_flatK]; omega
    rw [List.getElem?_take_of_lt hj, List.getElem?_drop, Array.getElem?_toList, Array.getElem?_eq_getElem hs, ← getElem!_pos (flatK encM 3 d) _ hs, flat_at d i j hi hj]
    rcases (show j = 0 ∨ j = 1 ∨ j = 2 by omega) with rfl | rfl | rfl <;> rfl
  · rw [List.getElem?_take_eq_none (by omega), List.getElem?_eq_none (by show 3 ≤ j; omega)]
theorem met_sorted (h : Kd.R k154 e w base ok (.slice (some ⟨g, 0, none⟩) m c) xs) (d : Array BM) (hs : d.size = xs.length) (n : Nat) (os : Array Obj) :
    Kd.R k154 e (sortWorldK encM 3 w g 0 n d os) base ok (.slice (some ⟨g, 0, none⟩) m c) (d.toList.map BM.val) := by
  obtain ⟨hok, inner, ⟨hl, ho⟩, hr⟩ := h
  rcases ho with ⟨hv, _⟩ | ⟨g', cap, cur, hv, hb, hh, hnc, hcm, hcs, ht⟩
  · cases hv
  injection hv with ha hn hc
  injection ha with ha
  injection ha with hg
  subst hg hc
  have hll : (d.toList.map BM.val).length = xs.length := by rw [List.length_map, Array.length_toList, hs]
  refine ⟨hok, (flatK encM 3 d).toList, ⟨by rw [hll, Array.length_toList, size_flatK, hs]; rfl, .inr ⟨g, c, _, by rw [hll]; exact congrArg (fun q => Value.slice _ q _) hn, hb, heapK d hh, by rw [hll]; exact hnc, hcm, by simp [putCells, hcs], ?_⟩⟩, by rw [hll, Array.length_toList, size_flatK, hs]; rfl, fun j p hp => ?_⟩
  · have hz : (d.toList.map BM.val).length * k154.sz = (flatK encM 3 d).size := by rw [hll, size_flatK, hs]; rfl
    rw [hz]
    refine take_putK cur _ ?_
    rw [size_flatK, hcs, hs]
    exact Nat.mul_le_mul_right _ hnc
  · have hj : j < d.size := by
      have := (List.getElem?_eq_some_iff.1 hp).1
      rwa [List.length_map, Array.length_toList] at this
    have e2 : ((flatK encM 3 d).toList.drop (j * k154.sz)).take k154.sz = encM d[j]! := flat_seg d j hj
    rw [e2]
    have e3 : (d[j]!).1 = p := by
      rw [List.getElem?_map, Array.getElem?_toList, Array.getElem?_eq_getElem hj] at hp
      rw [getElem!_pos d j hj]
      injection hp
    rw [← e3]
    exact k154_mkM _ _ _ (d[j]!).1
end
theorem sorted_is {xs : List S154} (hx : xs.Nodup) (d d' : Array BM) (hd : d.toList.map BM.val = xs) (hp : PermIn 0 d.size d d') (hs : SortedIn (ltOf cfM) 0 d.size d') : d'.size = xs.length ∧ d'.toList.map BM.val = sortM xs := by
  obtain ⟨h1, -, h3⟩ := hp
  have hsz : d.size = xs.length := by rw [← hd]; simp
  have e1 : d.extract 0 d.size = d := by simp
  have e2 : d'.extract 0 d.size = d' := by rw [← h1]; simp
  rw [e1, e2] at h3
  refine ⟨by omega, lex_unique ?_ ?_ (sortM_sorted xs hx)⟩
  · exact ((h3.map BM.val).trans (by rw [hd])).trans (sortM_perm xs).symm
  · rw [List.pairwise_map, List.pairwise_iff_getElem]
    intro i j hi hj hij
    rw [Array.length_toList] at hi hj
    have h := hs i j (Nat.zero_le _) hij (by omega)
    rw [cfM_lt, getElem!_pos d' i hi, getElem!_pos d' j hj] at h
    have hne : (d'[i]).1 ≠ (d'[j]).1 := by
      intro he
      have hnd : (d'.toList.map BM.val).Nodup := ((h3.map BM.val).trans (by rw [hd])).nodup_iff.2 hx
      rw [List.Nodup, List.pairwise_map, List.pairwise_iff_getElem] at hnd
      exact hnd i j (by simpa using hi) (by simpa using hj) hij (by simpa using he)
    rw [Array.getElem_toList, Array.getElem_toList]
    cases hq : lexLt (d'[i]).1 (d'[j]).1
    · exact absurd (lexLt_total hq h) hne
    · rfl
end Go.Proofs.Ytpdnabhpkdchjaa.P
namespace Go.Proofs.Ytpdnabhpkdchjaa.P
open Go Go.Sort Go.RowKit Go.Proofs Go.Proofs.YtpdnabhpkdchjaaW.PrintWords Go.Proofs.YtpdnabhpkdchjaaW.PrintLast Go.Proofs.YtpdnabhpkdchjaaW.PrintMore
set_option linter.unusedVariables false
set_option linter.unusedSimpArgs false
def sortMet_ren : Go.Shelf.Ren := ⟨fun | 6 => 120 | 15 => 136 | 14 => 135 | 28 => 145 | 29 => 146 | 20 => 137 | 21 => 138 | 22 => 139 | 23 => 140 | 24 => 141 | 25 => 142 | 26 => 143 | 27 => 144 | 46 => 147 | 47 => 148 | 48 => 149 | 49 => 150 | 50 => 151 | 57 => 152 | n => n, fun | 22 => 144 | 24 => 146 | 25 => 149 | 3 => 3 | 39 => 172 | 0 => 0 | 53 => 182 | 55 => 114 | 4 => 4 | 46 => 175 | 45 => 174 | 50 => 179 | 5 => 5 | 9 => 9 | 66 => 184 | 70 => 188 | 76 => 190 | 77 => 191 | n => n, fun | n => n⟩
theorem sortMet : Go.Proofs.SlLaysF0.n6 Try.prog sortMet_ren := {
  mixed := by kernel_rfl,
  f6 := ⟨Try.f120.name, by decide, Try.func120.trans (congrArg some (by kernel_rfl))⟩,
  f14 := ⟨Try.f135.name, by decide, Try.func135.trans (congrArg some (by kernel_rfl))⟩,
  f15 := Try.func136.trans (congrArg some (by kernel_rfl)),
  f20 := ⟨Try.f137.name, by decide, Try.func137.trans (congrArg some (by kernel_rfl))⟩,
  f21 := ⟨Try.f138.name, by decide, Try.func138.trans (congrArg some (by kernel_rfl))⟩,
  f22 := ⟨Try.f139.name, by decide, Try.func139.trans (congrArg some (by kernel_rfl))⟩,
  f23 := ⟨Try.f140.name, by decide, Try.func140.trans (congrArg some (by kernel_rfl))⟩,
  f24 := ⟨Try.f141.name, by decide, Try.func141.trans (congrArg some (by kernel_rfl))⟩,
  f25 := ⟨Try.f142.name, by decide, Try.func142.trans (congrArg some (by kernel_rfl))⟩,
  f26 := ⟨Try.f143.name, by decide, Try.func143.trans (congrArg some (by kernel_rfl))⟩,
  f27 := ⟨Try.f144.name, by decide, Try.func144.trans (congrArg some (by kernel_rfl))⟩,
  f28 := Try.func145.trans (congrArg some (by kernel_rfl)),
  f29 := Try.func146.trans (congrArg some (by kernel_rfl)),
  f46 := ⟨Try.f147.name, by decide, Try.func147.trans (congrArg some (by kernel_rfl))⟩,
  f47 := Try.func148.trans (congrArg some (by kernel_rfl)),
  f48 := Try.func149.trans (congrArg some (by kernel_rfl)),
  f49 := ⟨Try.f150.name, by decide, Try.func150.trans (congrArg some (by kernel_rfl))⟩,
  f50 := ⟨Try.f151.name, by decide, Try.func151.trans (congrArg some (by kernel_rfl))⟩,
  f57 := ⟨Try.f152.name, by decide, Try.func152.trans (congrArg some (by kernel_rfl))⟩,
  t0 := Try.underlying0,
  a0 := Try.isAgg0,
  z0 := Try.sizeOf0,
  v0 := Try.zeroValue0,
  t3 := Try.underlying3,
  a3 := Try.isAgg3,
  z3 := Try.sizeOf3,
  v3 := Try.zeroValue3,
  t4 := Try.underlying4,
  a4 := Try.isAgg4,
  z4 := Try.sizeOf4,
  v4 := Try.zeroValue4,
  t5 := Try.underlying5,
  a5 := Try.isAgg5,
  z5 := Try.sizeOf5,
  v5 := Try.zeroValue5,
  t9 := Try.underlying9,
  a9 := Try.isAgg9,
  z9 := Try.sizeOf9,
  v9 := Try.zeroValue9,
  t22 := Try.underlying144,
  a22 := Try.isAgg144,
  z22 := Try.sizeOf144,
  v22 := Try.zeroValue144,
  t25 := Try.underlying149,
  a25 := Try.isAgg149,
  z25 := Try.sizeOf149,
  v25 := Try.zeroValue149,
  t39 := Try.underlying172,
  a39 := Try.isAgg172,
  z39 := Try.sizeOf172,
  v39 := Try.zeroValue172,
  t45 := Try.underlying174,
  a45 := Try.isAgg174,
  z45 := Try.sizeOf174,
  v45 := Try.zeroValue174,
  t46 := Try.underlying175,
  a46 := Try.isAgg175,
  z46 := Try.sizeOf175,
  v46 := Try.zeroValue175,
  t50 := Try.underlying179,
  a50 := Try.isAgg179,
  z50 := Try.sizeOf179,
  v50 := Try.zeroValue179,
  t53 := Try.underlying182,
  a53 := Try.isAgg182,
  z53 := Try.sizeOf182,
  v53 := Try.zeroValue182,
  t55 := Try.underlying114,
  a55 := Try.isAgg114,
  z55 := Try.sizeOf114,
  v55 := Try.zeroValue114,
  t66 := Try.underlying184,
  a66 := Try.isAgg184,
  z66 := Try.sizeOf184,
  v66 := Try.zeroValue184,
  t70 := Try.underlying188,
  a70 := Try.isAgg188,
  z70 := Try.sizeOf188,
  v70 := Try.zeroValue188,
  t76 := Try.underlying190,
  a76 := Try.isAgg190,
  z76 := Try.sizeOf190,
  v76 := Try.zeroValue190,
  t77 := Try.underlying191,
  a77 := Try.isAgg191,
  z77 := Try.sizeOf191,
  v77 := Try.zeroValue191 }
set_option maxHeartbeats 4000000 in
set_option maxRecDepth 100000 in
theorem or3_is (g c : Nat) (x y z : Int) (w : World) (h0 : w.cell? ⟨g, 0, none⟩ = some (.int .i64 x)) (h1 : w.cell? ⟨g, 1, none⟩ = some (.int .i64 y)) (h2 : w.cell? ⟨g, 2, none⟩ = some (.int .i64 z)) :
    Calls Try.prog 122 #[.slice (some ⟨g, 0, none⟩) 3 c] w fun e w' => e = .returned (.int .i64 (if x = 0 then (if y = 0 then z else y) else x)) ∧ w' = w := by
  have hr : (if x = 0 then (if y = 0 then z else y) else x) = (if x = 0 then (if y = 0 then (if z = 0 then 0 else z) else y) else x) := by
    split
    · split
      · split
        · rename_i h; exact h
        · rfl
      · rfl
    · rfl
  rw [hr]
  clear hr
  go_enter Try.func122, Try.ntmps122
  go_wp2_with fail
  go_loopg [8] 3 (fun kq v8 w' => w' = w ∧ ((kq = 3 ∧ v8 = .int .i64 0) ∨ (kq = 2 ∧ v8 = .int .i64 1 ∧ x = 0) ∨ (kq = 1 ∧ v8 = .int .i64 2 ∧ x = 0 ∧ y = 0) ∨ (kq = 0 ∧ v8 = .int .i64 3 ∧ x = 0 ∧ y = 0 ∧ z = 0)))
  case atStart => exact ⟨rfl, .inl ⟨rfl, rfl⟩⟩
  case round =>
    obtain ⟨rfl, ⟨rfl, rfl⟩ | ⟨rfl, rfl, rfl⟩ | ⟨rfl, rfl, rfl, rfl⟩ | ⟨rfl, rfl, rfl, rfl, rfl⟩⟩ := hrel
    · by_cases hx : x = 0
      · have hb : (x != 0) = false := by simp [hx]
        go_wp2_with fail
        go_roundg 2
        case measure => omega
        case rel => exact ⟨rfl, .inr (.inl ⟨rfl, rfl, hx⟩)⟩
      · have hb : (x != 0) = true := by simp [hx]
        go_wp2_with fail
        go_ret
        exact ⟨by simp [hx], rfl⟩
    · by_cases hx : y = 0
      · have hb : (y != 0) = false := by simp [hx]
        go_wp2_with fail
        go_roundg 1
        case measure => omega
        case rel => exact ⟨rfl, .inr (.inr (.inl ⟨rfl, rfl, trivial, hx⟩))⟩
      · have hb : (y != 0) = true := by simp [hx]
        go_wp2_with fail
        go_ret
        exact ⟨by simp [hx], rfl⟩
    · by_cases hx : z = 0
      · have hb : (z != 0) = false := by simp [hx]
        go_wp2_with fail
        go_roundg 0
        case measure => omega
        case rel => exact ⟨rfl, .inr (.inr (.inr ⟨rfl, rfl, trivial, trivial, hx⟩))⟩
      · have hb : (z != 0) = true := by simp [hx]
        go_wp2_with fail
        go_ret
        exact ⟨by simp [hx], rfl⟩
    · go_wp2_with fail
      go_ret
      exact ⟨rfl, rfl⟩
set_option maxHeartbeats 4000000 in
set_option maxRecDepth 100000 in
theorem cmpI (a0 a1 a2 b0 b1 b2 : Int) (hx0 : 0 ≤ a0 ∧ a0 ≤ 4000000) (hx1 : 0 ≤ a1 ∧ a1 ≤ 4000000) (hx2 : 0 ≤ a2 ∧ a2 ≤ 4000000) (hy0 : 0 ≤ b0 ∧ b0 ≤ 4000000) (hy1 : 0 ≤ b1 ∧ b1 ≤ 4000000) (hy2 : 0 ≤ b2 ∧ b2 ≤ 4000000) (W : World) :
    Calls Try.prog 121 #[.agg #[.int .i64 a0, .int .i64 a1, .int .i64 a2], .agg #[.int .i64 b0, .int .i64 b1, .int .i64 b2]] W fun e w' => e = .returned (.int .i64 (if a0 - b0 = 0 then (if a1 - b1 = 0 then a2 - b2 else a1 - b1) else a0 - b0)) ∧ ∃ q os', w' = grow (W.drewN q) os' := by
  have e0 : IntKind.i64.wrap (a0 - b0) = a0 - b0 := (i64_w _).trans (wrap_id (by omega) (by omega))
  have e1 : IntKind.i64.wrap (a1 - b1) = a1 - b1 := (i64_w _).trans (wrap_id (by omega) (by omega))
  have e2 : IntKind.i64.wrap (a2 - b2) = a2 - b2 := (i64_w _).trans (wrap_id (by omega) (by omega))
  clear hx0 hx1 hx2 hy0 hy1 hy2
  obtain ⟨p, hp⟩ : ∃ p, p = a0 - b0 := ⟨_, rfl⟩
  obtain ⟨q, hq⟩ : ∃ q, q = a1 - b1 := ⟨_, rfl⟩
  obtain ⟨r, hr⟩ : ∃ r, r = a2 - b2 := ⟨_, rfl⟩
  rw [← hp, ← hq, ← hr]
  have E0 := e0.trans hp.symm
  have E1 := e1.trans hq.symm
  have E2 := e2.trans hr.symm
  clear e0 e1 e2 hp hq hr
  obtain ⟨v, hv⟩ : ∃ v, v = (if p = 0 then (if q = 0 then r else q) else p) := ⟨_, rfl⟩
  rw [← hv]
  have OR := Aside0.mk (show ∀ (g c : Nat) (w : World), w.cell? ⟨g, 0, none⟩ = some (.int .i64 p) → w.cell? ⟨g, 1, none⟩ = some (.int .i64 q) → w.cell? ⟨g, 2, none⟩ = some (.int .i64 r) →
    Calls Try.prog 122 #[.slice (some ⟨g, 0, none⟩) 3 c] w fun e w' => e = .returned (.int .i64 v) ∧ w' = w from fun g c w h0 h1 h2 => by rw [hv]; exact or3_is g c p q r w h0 h1 h2)
  clear hv
  go_enter Try.func121, Try.ntmps121
  go_wp2_with (go_at_call 122; refine (OR.out _ _ _ ?c0 ?c1 ?c2).mono ?_; (case c0 => go_simp); (case c1 => go_simp); (case c2 => go_simp); rintro e w' ⟨rfl, rfl⟩)
  go_ret
  exact ⟨rfl, 0, _, by rw [alloc_eq_grow, alloc_eq_grow, alloc_eq_grow, grow_grow, grow_grow]; rfl⟩
theorem cmp121 (x y : BM) (W : World) : Calls Try.prog 121 #[.agg (encM x).toArray, .agg (encM y).toArray] W fun e w' => e = .returned (.int .i64 (cfM x y)) ∧ ∃ q os', w' = grow (W.drewN q) os' :=
  cmpI x.1.f0 x.1.f1 x.1.f2 y.1.f0 y.1.f1 y.1.f2 x.2.1 x.2.2.1 x.2.2.2 y.2.1 y.2.2.1 y.2.2.2 W
theorem isAgg146 : ∀ w, (isAgg 146).run Try.prog w = .ok true w := Try.isAgg146
theorem sizeOf146 : ∀ w, (Go.sizeOf 146).run Try.prog w = .ok 3 w := Try.sizeOf146
theorem bm_list {xs : List S154} (hb : ∀ x ∈ xs, BdM x) : ∃ d : Array BM, d.toList.map BM.val = xs := by
  induction xs with
  | nil => exact ⟨#[], rfl⟩
  | cons x xs ih =>
    obtain ⟨d, hd⟩ := ih (fun y hy => hb y (List.mem_cons_of_mem _ hy))
    exact ⟨(⟨x, hb x List.mem_cons_self⟩ :: d.toList).toArray, by rw [List.map_cons, hd]⟩
section
variable {w : World} {base g m c : Nat} {ok : Nat → Prop} {xs : List S154}
theorem sort_is (h : Kd.R k154 146 w base ok (.slice (some ⟨g, 0, none⟩) m c) xs) (hx : xs.Nodup) (hb : ∀ x ∈ xs, BdM x) (hl : xs.length ≤ 1000000) :
    Calls Try.prog 120 #[.slice (some ⟨g, 0, none⟩) m c, .func (.func 121) #[] #[]] w fun e w' => e = .returned (.tuple #[]) ∧ Kd.R k154 146 w' base ok (.slice (some ⟨g, 0, none⟩) m c) (sortM xs) ∧ w.grownBy w' (some g) := by
  have hm : m = xs.length := (Kd.R_reads' h).1
  obtain ⟨d, hd⟩ := bm_list hb
  have hs : d.size = xs.length := by rw [← hd]; simp
  have eg : ∀ args w, (callFunc 121 args).run Try.prog w = .ok (.enter 121 args) w := enters_of Try.func121 (by kernel_rfl) rfl
  have hcon := AnyQ.slices_SortFunc sortMet 3 isAgg146 sizeOf146 encM (fun _ => rfl) (fun x v hv => by simp [encM] at hv; rcases hv with rfl | rfl | rfl <;> rfl) cfM cfM_swo 121 #[] g 0 c d w eg (fun _ _ _ _ x y => cmp121 x y _) (met_holds h d hd hm) (Kd.R_lt h g rfl) (by omega)
  change Calls Try.prog 120 _ _ _ at hcon
  rw [hs, ← hm] at hcon
  refine hcon.mono ?_
  rintro e w' ⟨rfl, d', n, os, hp, hso, rfl⟩
  rw [hm, ← hs] at hp hso
  obtain ⟨h1, h2⟩ := sorted_is hx d d' hd hp hso
  exact ⟨rfl, by rw [← h2]; exact met_sorted h d' h1 n os, grownK d'⟩
theorem sort_none (p : Option Addr) (c : Nat) (w : World) : Calls Try.prog 120 #[.slice p 0 c, .func (.func 121) #[] #[]] w fun e w' => e = .returned (.tuple #[]) ∧ w' = w :=
  AnyF.slices_SortFunc_none sortMet p c _ w
end
end Go.Proofs.Ytpdnabhpkdchjaa.P
