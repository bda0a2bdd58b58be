/- The statement FnSpoilt holds of the given program, for every argument; there are no conditions. (Part 5 of 5.) -/
import Derived.Test.YtpdnabhpkdchjaaBFnSpoilt4
import Derived.ShutString
namespace Go.Proofs.Ytpdnabhpkdchjaa.P
open Go.RowKit Go.Proofs.YtpdnabhpkdchjaaW.PrintWords Go.Proofs.YtpdnabhpkdchjaaW.PrintLast Go.Proofs.YtpdnabhpkdchjaaW.PrintMore
attribute [local go_sem] max2_int min2_int max_two min_two max_three min_three max_four min_four
set_option linter.unusedVariables false
set_option linter.unusedSimpArgs false
mutual
def spec_l5Cur_layout.l0:Nat→Int→List Int→Int→Int→Int→List (S88)→Option (Int × (List (S88)) × Int × Int)
 | 0,_,_,_,_,_,_=>none
 | k+1,x4,x1000,x1001,x1002,x164000,x164001=>if x4≤x164000 then (if x4=x164000 then ((spec_l5Cur_pick.f x1000 x1001 x1002 12).bind fun bt165=>(if bt165.1 > 0 then (if x164001.length<8796093022208 then (spec_l5Cur_layout.l0 k (wrap64 (x4+1)) x1000 bt165.2.1 bt165.2.2 x164000 (x164001 ++ [(⟨wrap64 (x4 - 1),(-1)⟩:S88)])) else (none)) else (spec_l5Cur_layout.l0 k (wrap64 (x4+1)) x1000 bt165.2.1 bt165.2.2 x164000 x164001))) else ((spec_l5Cur_pick.f x1000 x1001 x1002 12).bind fun bt171=>(if bt171.1 > 0 then (if x164001.length<8796093022208 then (spec_l5Cur_layout.l0 k (wrap64 (x4+1)) x1000 bt171.2.1 bt171.2.2 x164000 (x164001 ++ [(⟨wrap64 (x4 - 1),x4⟩:S88)])) else (none)) else (spec_l5Cur_layout.l0 k (wrap64 (x4+1)) x1000 bt171.2.1 bt171.2.2 x164000 x164001)))) else ((spec_l5Cur_pick.f x1000 x1001 x1002 3).bind fun bt177=>(spec_l5Cur_layout.l1 k bt177.1 x1000 bt177.2.1 bt177.2.2 x164000 x164001))
def spec_l5Cur_layout.l1:Nat→Int→List Int→Int→Int→Int→List (S88)→Option (Int × (List (S88)) × Int × Int)
 | 0,_,_,_,_,_,_=>none
 | k+1,x6,x1000,x1001,x1002,x164000,x164001=>if x6 > 0 then ((spec_l5Cur_pick.f x1000 x1001 x1002 (wrap64 (x164000+1))).bind fun bt180=>((spec_l5Cur_pick.f x1000 bt180.2.1 bt180.2.2 (wrap64 (x164000+1))).bind fun bt183=>(if (wrap64 (bt180.1 - 1))=(wrap64 (bt183.1 - 1)) then (spec_l5Cur_layout.l1 k (wrap64 (x6 - 1)) x1000 bt183.2.1 bt183.2.2 x164000 x164001) else (if x164001.length<8796093022208 then (spec_l5Cur_layout.l1 k (wrap64 (x6 - 1)) x1000 bt183.2.1 bt183.2.2 x164000 (x164001 ++ [(⟨wrap64 (bt180.1 - 1),wrap64 (bt183.1 - 1)⟩:S88)])) else (none))))) else (some (x164000,x164001,x1001,x1002))
end
def spec_l5Cur_layout.f (k:Nat) (s0_0:List Int) (s0_1:Int) (s0_2:Int):Option (Int × (List (S88)) × Int × Int):=(spec_l5Cur_pick.f s0_0 s0_1 s0_2 5).bind fun bt160=>(spec_l5Cur_layout.l0 k 0 s0_0 bt160.2.1 bt160.2.2 (wrap64 (1+bt160.1)) ([]:List (S88)))
set_option maxHeartbeats 8000000 in
set_option maxRecDepth 100000 in
theorem spec_l5Cur_layout.calls (k:Nat) (g:Nat) (s0_0:List Int) (s0_1:Int) (s0_2:Int) (r1:Int) (r2:List (S88)) (r3:Int) (r4:Int) (w0 w:World) (hI:IsS116 w0 w g s0_0 s0_1 s0_2) (hB:Below w0.heap.size w0 w) (h:spec_l5Cur_layout.f k s0_0 s0_1 s0_2=some (r1,r2,r3,r4)) :
  Calls Try.prog 91 #[.pointer (some ⟨g,0,none⟩)] w fun e w'=>∃ v1_:Value,e=.returned (.agg #[.int .i64 r1,v1_])∧Kd.R k88 88 w' w.heap.size (fun _=>True) v1_ r2∧IsS116 w0 w' g s0_0 r3 r4∧Below w0.heap.size w0 w'∧KeepBut w w' g none:=by
 have hu30:=Try.underlying30
 have hu88:=Try.underlying88
 have HI0:=Aside0.mk hI
 have HK:=Aside0.mk (KeepBut.refl w g none)
 have HL:=Aside0.mk hB.size
 clear hI
 have HW0:=Aside0.mk hB.size
 have HB:=Aside0.mk hB
 clear hB
 have H:((spec_l5Cur_pick.f s0_0 s0_1 s0_2 5).bind fun bt160=>(spec_l5Cur_layout.l0 k 0 s0_0 bt160.2.1 bt160.2.2 (wrap64 (1+bt160.1)) ([]:List (S88))))=some (r1,r2,r3,r4):=h
 clear h
 replace H:=Option.bind_eq_some_iff.mp H
 obtain ⟨⟨t160,t161,t162⟩,A20,H⟩:=H
 replace H:(spec_l5Cur_layout.l0 k 0 s0_0 t161 t162 (wrap64 (1+t160)) ([]:List (S88)))=some (r1,r2,r3,r4):=H
 have A2:=Aside0.mk A20
 clear A20
 have H':=Aside0.mk H
 clear H
 go_enter Try.func91,Try.ntmps91
 go_wp2_with (first|((with_reducible refine gate_dst (N:=2) rfl ?_);refine box_event ?hg (N:=2) ?hd (cs:=#[.int .i64 0,.slice none 0 0]) (t:=30) ?hr ?_;(case hd=>rfl);(case hg=>rfl);(case hr=>first|(go_simp;done)|(go_simp;rfl));intro gb159 hg w3 hbox hb;have n0_:=Aside0.mk (IsS116.below (by repeat (first|(with_reducible first|exact HI0.out|apply IsS116.alloc|apply IsS116.drewN|apply IsS116.drew|apply IsS116.set_1|apply IsS116.set_2)|exact HI0.out)) hb);have n1_:=Aside0.mk (KeepBut.trans (by repeat (first|(with_reducible first|exact HK.out|apply KeepBut.set_|apply keep_drewN|apply keep_drew|apply keep_alloc)|exact HK.out)) (KeepBut.of_below hb g none) (.inl rfl));have n2_:=Aside0.mk (below_step (by repeat (first|(with_reducible first|exact HB.out|apply below_alloc|apply pw_below_drewN|apply below_drew1|refine below_set ?_ (IsS116.ge HI0.out))|exact HB.out)) hb);have n3_:=Aside0.mk (hbox);have n4_:=Aside0.mk ((by rw [hg];exact (keep_size (w:=w) (g:=g) (row:=none) (by repeat (first|(with_reducible first|exact HK.out|apply KeepBut.set_|apply keep_drewN|apply keep_drew|apply keep_alloc)|exact HK.out))):w.heap.size≤gb159));have n5_:=Aside0.mk ((Nat.le_trans HW0.out (by rw [hg];exact (keep_size (w:=w) (g:=g) (row:=none) (by repeat (first|(with_reducible first|exact HK.out|apply KeepBut.set_|apply keep_drewN|apply keep_drew|apply keep_alloc)|exact HK.out))):w.heap.size≤gb159):w0.heap.size≤gb159));have n6_:=Aside0.mk ((by rw [hg];exact Nat.ne_of_lt (IsS116.lt (show IsS116 w0 _ g s0_0 s0_1 s0_2 from by repeat (first|(with_reducible first|exact HI0.out|apply IsS116.alloc|apply IsS116.drewN|apply IsS116.drew|apply IsS116.set_1|apply IsS116.set_2)|exact HI0.out))):g ≠ gb159));have n7_:=Aside0.mk ((by rw [hg];exact Nat.ne_of_gt (IsS116.lt (show IsS116 w0 _ g s0_0 s0_1 s0_2 from by repeat (first|(with_reducible first|exact HI0.out|apply IsS116.alloc|apply IsS116.drewN|apply IsS116.drew|apply IsS116.set_1|apply IsS116.set_2)|exact HI0.out))):gb159 ≠ g));clear HI0;clear HK;clear HB;have HI0:=n0_;have HK:=n1_;have HB:=n2_;have BK159:=n3_;have GW159:=n4_;have GE159:=n5_;have NB0_159:=n6_;have NB159_0:=n7_;clear n0_ n1_ n2_ n3_ n4_ n5_ n6_ n7_;clear hb hbox hg)|((with_reducible refine gate_callee (f:=108) rfl ?_);refine goesL_ (some 10) rfl rfl Try.func108 (by kernel_rfl) rfl #[.pointer (some ⟨g,0,none⟩),.int .i64 5] rfl (by (try simp only [List.map_toArray,List.map_cons,List.map_nil]);first|done|rfl|(simp only [List.length_drop,List.length_take];rfl)) ?_;(with_reducible refine (spec_l5Cur_pick.calls g s0_0 s0_1 s0_2 5 t160 t161 t162 w0 _ ?side1 ?side2 A2.out).mono ?_);(case side1=>repeat (first|(with_reducible first|exact HI0.out|apply IsS116.alloc|apply IsS116.drewN|apply IsS116.drew|apply IsS116.set_1|apply IsS116.set_2|refine IsS116.far ?_ NB0_159.out _)|exact HI0.out));(case side2=>repeat (first|(with_reducible first|exact HB.out|apply below_alloc|apply pw_below_drewN|apply below_drew1|refine below_set ?_ (IsS116.ge HI0.out)|refine below_set ?_ GE159.out)|exact HB.out));rintro e w4 ⟨rfl,hi,hb,hk⟩;refine ⟨_,rfl,?_⟩;have n0_:=Aside0.mk (KeepBut.blk hk (g':=gb159) (o:=.cells #[.int .i64 0,.slice none 0 0] 30 (0,0)) (by (with_reducible repeat (first|refine blk_drewN ?_ _|refine blk_drew ?_|refine blk_alloc ?_ _));exact BK159.out) NB159_0.out (by simp));have n1_:=Aside0.mk (KeepBut.trans (by repeat (first|(with_reducible first|exact HK.out|apply KeepBut.set_|apply keep_drewN|apply keep_drew|apply keep_alloc|refine keep_far ?_ GW159.out _)|exact HK.out)) hk (.inl rfl));have n2_:=Aside0.mk (hb);have n3_:=Aside0.mk (hi);clear BK159;clear HK;clear HB;clear HI0;have BK159:=n0_;have HK:=n1_;have HB:=n2_;have HI0:=n3_;clear n0_ n1_ n2_ n3_;(try clear hb);(try clear hb2);(try clear hk);(try clear hi))|((with_reducible refine gate_dst (N:=3) rfl ?_);refine box_event ?hg (N:=3) ?hd (cs:=#[.int .i64 0,.slice none 0 0]) (t:=30) ?hr ?_;(case hd=>rfl);(case hg=>rfl);(case hr=>first|(go_simp;done)|(go_simp;rfl));intro gb163 hg w5 hbox hb;have n0_:=Aside0.mk (IsS116.below (by repeat (first|(with_reducible first|exact HI0.out|apply IsS116.alloc|apply IsS116.drewN|apply IsS116.drew|apply IsS116.set_1|apply IsS116.set_2|refine IsS116.far ?_ NB0_159.out _)|exact HI0.out)) hb);have n1_:=Aside0.mk (blk_below (g:=gb159) (o:=.cells #[.int .i64 0,.slice none 0 0] 30 (0,0)) (by (with_reducible repeat (first|refine blk_drewN ?_ _|refine blk_drew ?_|refine blk_alloc ?_ _));exact BK159.out) hb);have n2_:=Aside0.mk (KeepBut.trans (by repeat (first|(with_reducible first|exact HK.out|apply KeepBut.set_|apply keep_drewN|apply keep_drew|apply keep_alloc|refine keep_far ?_ GW159.out _)|exact HK.out)) (KeepBut.of_below hb g none) (.inl rfl));have n3_:=Aside0.mk (below_step (by repeat (first|(with_reducible first|exact HB.out|apply below_alloc|apply pw_below_drewN|apply below_drew1|refine below_set ?_ (IsS116.ge HI0.out)|refine below_set ?_ GE159.out)|exact HB.out)) hb);have n4_:=Aside0.mk (hbox);have n5_:=Aside0.mk ((by rw [hg];exact (keep_size (w:=w) (g:=g) (row:=none) (by repeat (first|(with_reducible first|exact HK.out|apply KeepBut.set_|apply keep_drewN|apply keep_drew|apply keep_alloc|refine keep_far ?_ GW159.out _)|exact HK.out))):w.heap.size≤gb163));have n6_:=Aside0.mk ((Nat.le_trans HW0.out (by rw [hg];exact (keep_size (w:=w) (g:=g) (row:=none) (by repeat (first|(with_reducible first|exact HK.out|apply KeepBut.set_|apply keep_drewN|apply keep_drew|apply keep_alloc|refine keep_far ?_ GW159.out _)|exact HK.out))):w.heap.size≤gb163):w0.heap.size≤gb163));have n7_:=Aside0.mk ((by rw [hg];exact Nat.ne_of_lt (blk_lt (g:=gb159) (o:=.cells #[.int .i64 0,.slice none 0 0] 30 (0,0)) (by (with_reducible repeat (first|refine blk_drewN ?_ _|refine blk_drew ?_|refine blk_alloc ?_ _));exact BK159.out)):gb159 ≠ gb163));have n8_:=Aside0.mk ((by rw [hg];exact Nat.ne_of_gt (blk_lt (g:=gb159) (o:=.cells #[.int .i64 0,.slice none 0 0] 30 (0,0)) (by (with_reducible repeat (first|refine blk_drewN ?_ _|refine blk_drew ?_|refine blk_alloc ?_ _));exact BK159.out)):gb163 ≠ gb159));have n9_:=Aside0.mk ((by rw [hg];exact Nat.ne_of_lt (IsS116.lt (show IsS116 w0 _ g s0_0 t161 t162 from by repeat (first|(with_reducible first|exact HI0.out|apply IsS116.alloc|apply IsS116.drewN|apply IsS116.drew|apply IsS116.set_1|apply IsS116.set_2|refine IsS116.far ?_ NB0_159.out _)|exact HI0.out))):g ≠ gb163));have n10_:=Aside0.mk ((by rw [hg];exact Nat.ne_of_gt (IsS116.lt (show IsS116 w0 _ g s0_0 t161 t162 from by repeat (first|(with_reducible first|exact HI0.out|apply IsS116.alloc|apply IsS116.drewN|apply IsS116.drew|apply IsS116.set_1|apply IsS116.set_2|refine IsS116.far ?_ NB0_159.out _)|exact HI0.out))):gb163 ≠ g));clear HI0;clear BK159;clear HK;clear HB;have HI0:=n0_;have BK159:=n1_;have HK:=n2_;have HB:=n3_;have BK163:=n4_;have GW163:=n5_;have GE163:=n6_;have NB159_163:=n7_;have NB163_159:=n8_;have NB0_163:=n9_;have NB163_0:=n10_;clear n0_ n1_ n2_ n3_ n4_ n5_ n6_ n7_ n8_ n9_ n10_;clear hb hbox hg;have hnb6:=NB163_159.out;have hnc6:=NB159_163.out;have hnb7:=NB163_0.out;have hnc7:=NB0_163.out;have hcz8_0:w5.cell? ⟨gb163,0,none⟩=some (.int .i64 0):=(blk_cell BK163.out 0).trans rfl;have hcz8_1:w5.cell? ⟨gb163,1,none⟩=some (.slice none 0 0):=(blk_cell BK163.out 1).trans rfl;have hfz8_0:=blk_frozen BK163.out 0;have hfz8_1:=blk_frozen BK163.out 1))
 go_loopg [4] k (fun kq v4 w'=>∃ (x4_1:Int) (x1001_1:Int) (x1002_1:Int) (x164001_1:List (S88)) (u164001:Value),v4=.int .i64 x4_1∧Aside0 (spec_l5Cur_layout.l0 kq x4_1 s0_0 x1001_1 x1002_1 (wrap64 (1+t160)) x164001_1=some (r1,r2,r3,r4))∧Aside0 (kq≤k)∧Aside0 (Kd.R k88 88 w' w.heap.size (fun _=>True) u164001 x164001_1)∧Aside0 (w'.heap[gb159]?=some (.cells #[.int .i64 0,(.slice none 0 0)] 30 (0,0)))∧Aside0 (w'.heap[gb163]?=some (.cells #[.int .i64 (wrap64 (1+t160)),u164001] 30 (0,0)))∧Aside0 (IsS116 w0 w' g s0_0 x1001_1 x1002_1)∧Aside0 (KeepBut w w' g none)∧Aside0 (Below w0.heap.size w0 w'))
 case atStart=>exact ⟨(0),(t161),(t162),(([]:List (S88))),(.slice none 0 0),(by first|rfl|(simp;done)|(simp [*];done)),H',⟨Nat.le_refl _⟩,⟨by first|exact Kd.R_nil _ _ _ _ _|exact Kd.N_nil _ _ _ _ _|exact Kd.V_nil _ _ _ _ _|exact Kd.Q_nil _ _ _ _ _|exact Kd.S_nil _ _ _ _ _⟩,⟨by (with_reducible repeat (first|refine blk_drewN ?_ _|refine blk_drew ?_|refine blk_alloc ?_ _));refine blk_far ?_ NB159_163.out _;(with_reducible repeat (first|refine blk_drewN ?_ _|refine blk_drew ?_|refine blk_alloc ?_ _));refine blk_far ?_ NB159_163.out _;(with_reducible repeat (first|refine blk_drewN ?_ _|refine blk_drew ?_|refine blk_alloc ?_ _));exact BK159.out⟩,⟨by (with_reducible repeat (first|refine blk_drewN ?_ _|refine blk_drew ?_|refine blk_alloc ?_ _));refine blk_put (cs:=#[.int .i64 (wrap64 (1+t160)),.slice none 0 0]) ?_ 1 _ rfl;(with_reducible repeat (first|refine blk_drewN ?_ _|refine blk_drew ?_|refine blk_alloc ?_ _));refine blk_put (cs:=#[.int .i64 0,.slice none 0 0]) ?_ 0 _ rfl;(with_reducible repeat (first|refine blk_drewN ?_ _|refine blk_drew ?_|refine blk_alloc ?_ _));exact BK163.out⟩,⟨by repeat (first|(with_reducible first|exact HI0.out|apply IsS116.alloc|apply IsS116.drewN|apply IsS116.drew|apply IsS116.set_1|apply IsS116.set_2|refine IsS116.far ?_ NB0_159.out _|refine IsS116.far ?_ NB0_163.out _)|exact HI0.out)⟩,⟨by repeat (first|(with_reducible first|exact HK.out|apply KeepBut.set_|apply keep_drewN|apply keep_drew|apply keep_alloc|refine keep_far ?_ GW159.out _|refine keep_far ?_ GW163.out _)|exact HK.out)⟩,⟨by repeat (first|(with_reducible first|exact HB.out|apply below_alloc|apply pw_below_drewN|apply below_drew1|refine below_set ?_ (IsS116.ge HI0.out)|refine below_set ?_ GE159.out|refine below_set ?_ GE163.out)|exact HB.out)⟩⟩
 case round =>
  clear H'
  try clear c1
  try clear p2
  try clear c6
  try clear p6
  try clear c7
  try clear hcz8_0
  try clear hcz8_1
  try clear hfz8_0
  try clear hfz8_1
  obtain ⟨x4_1,x1001_1,x1002_1,x164001_1,u164001,rfl,HA,HK1,HO_164001,BK159,BK163,HI0,HK,HB⟩:=hrel
  cases gk with
  | zero=>exact absurd HA.out (by simp [spec_l5Cur_layout.l0])
  | succ k1 =>
   have H:=HA.out
   clear HA
   simp only [spec_l5Cur_layout.l0] at H
   by_cases c9:x4_1≤(wrap64 (1+t160))
   ·rw [if_pos c9] at H
    have c9b0:decide (x4_1≤(wrap64 (1+t160)))=true:=decide_eq_true c9
    clear c9
    by_cases c10:x4_1=(wrap64 (1+t160))
    ·rw [if_pos c10] at H
     have c10b0:(x4_1==(wrap64 (1+t160)))=true:=beq_iff_eq.mpr c10
     have c10b1:(x4_1 != (wrap64 (1+t160)))=false:=bne_eq_false_iff_eq.mpr c10
     clear c10
     replace H:=Option.bind_eq_some_iff.mp H
     obtain ⟨⟨t165,t166,t167⟩,A110,H⟩:=H
     replace H:(if t165 > 0 then (if x164001_1.length<8796093022208 then (spec_l5Cur_layout.l0 k1 (wrap64 (x4_1+1)) s0_0 t166 t167 (wrap64 (1+t160)) (x164001_1 ++ [(⟨wrap64 (x4_1 - 1),(-1)⟩:S88)])) else (none)) else (spec_l5Cur_layout.l0 k1 (wrap64 (x4_1+1)) s0_0 t166 t167 (wrap64 (1+t160)) x164001_1))=some (r1,r2,r3,r4):=H
     have A11:=Aside0.mk A110
     clear A110
     by_cases c12:t165 > 0
     ·rw [if_pos c12] at H
      have c12b0:decide (0<t165)=true:=decide_eq_true c12
      clear c12
      by_cases c13:x164001_1.length<8796093022208
      ·rw [if_pos c13] at H
       have LMc13:=Aside0.mk c13
       clear c13
       obtain ⟨y168,hy168⟩:∃ y_:List (S88),y_=(x164001_1 ++ [(⟨wrap64 (x4_1 - 1),(-1)⟩:S88)]):=⟨_,rfl⟩
       replace H:(spec_l5Cur_layout.l0 k1 (wrap64 (x4_1+1)) s0_0 t166 t167 (wrap64 (1+t160)) y168)=some (r1,r2,r3,r4):=by first|(rw [hy168];with_reducible exact H)|(have H2_:=(Option.bind_some _ _).symm.trans H;rw [hy168];with_reducible exact H2_)|(have H2_:=(Option.bind_some _ _).symm.trans H;with_reducible exact H2_)|with_reducible exact H|(rw [hy168];exact H)|exact H
       have Ny168:=Aside0.mk hy168
       clear hy168
       have H':=Aside0.mk H
       clear H
       have hnb14:=NB163_159.out
       have hnc14:=NB159_163.out
       have hnb15:=NB163_0.out
       have hnc15:=NB0_163.out
       have hcz16_0:wr.cell? ⟨gb163,0,none⟩=some (.int .i64 (wrap64 (1+t160))):=(blk_cell BK163.out 0).trans rfl
       have hcz16_1:wr.cell? ⟨gb163,1,none⟩=some (u164001):=(blk_cell BK163.out 1).trans rfl
       have hfz16_0:=blk_frozen BK163.out 0
       have hfz16_1:=blk_frozen BK163.out 1
       go_wp2_with (first|((with_reducible refine gate_dst (N:=5) rfl ?_);refine box_event ?hg (N:=5) ?hd (cs:=#[.int .i64 0,.int .i64 0]) (t:=88) ?hr ?_;(case hd=>rfl);(case hg=>rfl);(case hr=>first|(go_simp;done)|(go_simp;rfl));intro gb164 hg w17 hbox hb;have n0_:=Aside0.mk (Kd.R_below (Kd.R_elderB (by (with_reducible repeat (first|apply Kd.R_alloc|apply Kd.R_drewN|apply Kd.R_drew));exact HO_164001.out) gb164 (Nat.le_of_eq hg.symm)) hb);have n1_:=Aside0.mk (blk_below (g:=gb159) (o:=.cells #[.int .i64 0,.slice none 0 0] 30 (0,0)) (by (with_reducible repeat (first|refine blk_drewN ?_ _|refine blk_drew ?_|refine blk_alloc ?_ _));exact BK159.out) hb);have n2_:=Aside0.mk (blk_below (g:=gb163) (o:=.cells #[.int .i64 (wrap64 (1+t160)),u164001] 30 (0,0)) (by (with_reducible repeat (first|refine blk_drewN ?_ _|refine blk_drew ?_|refine blk_alloc ?_ _));exact BK163.out) hb);have n3_:=Aside0.mk (IsS116.below (by repeat (first|(with_reducible first|exact HI0.out|apply IsS116.alloc|apply IsS116.drewN|apply IsS116.drew|apply IsS116.set_1|apply IsS116.set_2|refine IsS116.far ?_ NB0_159.out _|refine IsS116.far ?_ NB0_163.out _)|exact HI0.out)) hb);have n4_:=Aside0.mk (KeepBut.trans (by repeat (first|(with_reducible first|exact HK.out|apply KeepBut.set_|apply keep_drewN|apply keep_drew|apply keep_alloc|refine keep_far ?_ GW159.out _|refine keep_far ?_ GW163.out _)|exact HK.out)) (KeepBut.of_below hb g none) (.inl rfl));have n5_:=Aside0.mk (below_step (by repeat (first|(with_reducible first|exact HB.out|apply below_alloc|apply pw_below_drewN|apply below_drew1|refine below_set ?_ (IsS116.ge HI0.out)|refine below_set ?_ GE159.out|refine below_set ?_ GE163.out)|exact HB.out)) hb);have n6_:=Aside0.mk (hbox);have n7_:=Aside0.mk ((by rw [hg];exact (keep_size (w:=w) (g:=g) (row:=none) (by repeat (first|(with_reducible first|exact HK.out|apply KeepBut.set_|apply keep_drewN|apply keep_drew|apply keep_alloc|refine keep_far ?_ GW159.out _|refine keep_far ?_ GW163.out _)|exact HK.out))):w.heap.size≤gb164));have n8_:=Aside0.mk ((Nat.le_trans HW0.out (by rw [hg];exact (keep_size (w:=w) (g:=g) (row:=none) (by repeat (first|(with_reducible first|exact HK.out|apply KeepBut.set_|apply keep_drewN|apply keep_drew|apply keep_alloc|refine keep_far ?_ GW159.out _|refine keep_far ?_ GW163.out _)|exact HK.out))):w.heap.size≤gb164):w0.heap.size≤gb164));have n9_:=Aside0.mk ((by rw [hg];exact Nat.ne_of_lt (blk_lt (g:=gb159) (o:=.cells #[.int .i64 0,.slice none 0 0] 30 (0,0)) (by (with_reducible repeat (first|refine blk_drewN ?_ _|refine blk_drew ?_|refine blk_alloc ?_ _));exact BK159.out)):gb159 ≠ gb164));have n10_:=Aside0.mk ((by rw [hg];exact Nat.ne_of_gt (blk_lt (g:=gb159) (o:=.cells #[.int .i64 0,.slice none 0 0] 30 (0,0)) (by (with_reducible repeat (first|refine blk_drewN ?_ _|refine blk_drew ?_|refine blk_alloc ?_ _));exact BK159.out)):gb164 ≠ gb159));have n11_:=Aside0.mk ((by rw [hg];exact Nat.ne_of_lt (blk_lt (g:=gb163) (o:=.cells #[.int .i64 (wrap64 (1+t160)),u164001] 30 (0,0)) (by (with_reducible repeat (first|refine blk_drewN ?_ _|refine blk_drew ?_|refine blk_alloc ?_ _));exact BK163.out)):gb163 ≠ gb164));have n12_:=Aside0.mk ((by rw [hg];exact Nat.ne_of_gt (blk_lt (g:=gb163) (o:=.cells #[.int .i64 (wrap64 (1+t160)),u164001] 30 (0,0)) (by (with_reducible repeat (first|refine blk_drewN ?_ _|refine blk_drew ?_|refine blk_alloc ?_ _));exact BK163.out)):gb164 ≠ gb163));have n13_:=Aside0.mk ((by rw [hg];exact Nat.ne_of_lt (IsS116.lt (show IsS116 w0 _ g s0_0 x1001_1 x1002_1 from by repeat (first|(with_reducible first|exact HI0.out|apply IsS116.alloc|apply IsS116.drewN|apply IsS116.drew|apply IsS116.set_1|apply IsS116.set_2|refine IsS116.far ?_ NB0_159.out _|refine IsS116.far ?_ NB0_163.out _)|exact HI0.out))):g ≠ gb164));have n14_:=Aside0.mk ((by rw [hg];exact Nat.ne_of_gt (IsS116.lt (show IsS116 w0 _ g s0_0 x1001_1 x1002_1 from by repeat (first|(with_reducible first|exact HI0.out|apply IsS116.alloc|apply IsS116.drewN|apply IsS116.drew|apply IsS116.set_1|apply IsS116.set_2|refine IsS116.far ?_ NB0_159.out _|refine IsS116.far ?_ NB0_163.out _)|exact HI0.out))):gb164 ≠ g));clear HO_164001;clear BK159;clear BK163;clear HI0;clear HK;clear HB;have HO_164001:=n0_;have BK159:=n1_;have BK163:=n2_;have HI0:=n3_;have HK:=n4_;have HB:=n5_;have BK164:=n6_;have GW164:=n7_;have GE164:=n8_;have NB159_164:=n9_;have NB164_159:=n10_;have NB163_164:=n11_;have NB164_163:=n12_;have NB0_164:=n13_;have NB164_0:=n14_;clear n0_ n1_ n2_ n3_ n4_ n5_ n6_ n7_ n8_ n9_ n10_ n11_ n12_ n13_ n14_;clear hb hbox hg;have hnb18:=NB164_159.out;have hnc18:=NB159_164.out;have hnb19:=NB164_163.out;have hnc19:=NB163_164.out;have hnb20:=NB164_0.out;have hnc20:=NB0_164.out;have hcz21_0:w17.cell? ⟨gb164,0,none⟩=some (.int .i64 0):=(blk_cell BK164.out 0).trans rfl;have hcz21_1:w17.cell? ⟨gb164,1,none⟩=some (.int .i64 0):=(blk_cell BK164.out 1).trans rfl;have hfz21_0:=blk_frozen BK164.out 0;have hfz21_1:=blk_frozen BK164.out 1;have hcz22_0:w17.cell? ⟨gb163,0,none⟩=some (.int .i64 (wrap64 (1+t160))):=(blk_cell BK163.out 0).trans rfl;have hcz22_1:w17.cell? ⟨gb163,1,none⟩=some (u164001):=(blk_cell BK163.out 1).trans rfl;have hfz22_0:=blk_frozen BK163.out 0;have hfz22_1:=blk_frozen BK163.out 1)|((with_reducible refine gate_callee (f:=108) rfl ?_);refine goesL_ (some 29) rfl rfl Try.func108 (by kernel_rfl) rfl #[.pointer (some ⟨g,0,none⟩),.int .i64 12] rfl (by (try simp only [List.map_toArray,List.map_cons,List.map_nil]);first|done|rfl|(simp only [List.length_drop,List.length_take];rfl)) ?_;(with_reducible refine (spec_l5Cur_pick.calls g s0_0 x1001_1 x1002_1 12 t165 t166 t167 w0 _ ?side1 ?side2 A11.out).mono ?_);(case side1=>repeat (first|(with_reducible first|exact HI0.out|apply IsS116.alloc|apply IsS116.drewN|apply IsS116.drew|apply IsS116.set_1|apply IsS116.set_2|refine IsS116.far ?_ NB0_159.out _|refine IsS116.far ?_ NB0_163.out _|refine IsS116.far ?_ NB0_164.out _)|exact HI0.out));(case side2=>repeat (first|(with_reducible first|exact HB.out|apply below_alloc|apply pw_below_drewN|apply below_drew1|refine below_set ?_ (IsS116.ge HI0.out)|refine below_set ?_ GE159.out|refine below_set ?_ GE163.out|refine below_set ?_ GE164.out)|exact HB.out));rintro e w23 ⟨rfl,hi,hb,hk⟩;refine ⟨_,rfl,?_⟩;have n0_:=Aside0.mk (Kd.R_mono (Kd.R_keep (IsS116.apart (show IsS116 w0 _ g s0_0 x1001_1 x1002_1 from by repeat (first|(with_reducible first|exact HI0.out|apply IsS116.alloc|apply IsS116.drewN|apply IsS116.drew|apply IsS116.set_1|apply IsS116.set_2|refine IsS116.far ?_ NB0_159.out _|refine IsS116.far ?_ NB0_163.out _|refine IsS116.far ?_ NB0_164.out _)|exact HI0.out)) (by (with_reducible repeat (first|apply Kd.R_alloc|apply Kd.R_drewN|apply Kd.R_drew));exact (Kd.R_mono (Kd.R_far (p:=⟨gb164,1,none⟩) (Kd.R_far (p:=⟨gb164,1,none⟩) (Kd.R_far (p:=⟨gb164,0,none⟩) (Kd.R_mono HO_164001.out (fun k_ hk=>(⟨hk,hk.2⟩:_∧k_ ≠ gb164))) (fun _ hk=>hk.2) (.int .i64 (wrap64 (x4_1 - 1)))) (fun _ hk=>hk.2) (.int .i64 x4_1)) (fun _ hk=>hk.2) (.int .i64 (-1))) (fun _ h_=>h_.1))) (by decide)) hk (fun _ h=>h.2)) (fun _ h=>h.1));have n1_:=Aside0.mk (KeepBut.blk hk (g':=gb159) (o:=.cells #[.int .i64 0,.slice none 0 0] 30 (0,0)) (by (with_reducible repeat (first|refine blk_drewN ?_ _|refine blk_drew ?_|refine blk_alloc ?_ _));refine blk_far ?_ NB159_164.out _;(with_reducible repeat (first|refine blk_drewN ?_ _|refine blk_drew ?_|refine blk_alloc ?_ _));refine blk_far ?_ NB159_164.out _;(with_reducible repeat (first|refine blk_drewN ?_ _|refine blk_drew ?_|refine blk_alloc ?_ _));refine blk_far ?_ NB159_164.out _;(with_reducible repeat (first|refine blk_drewN ?_ _|refine blk_drew ?_|refine blk_alloc ?_ _));exact BK159.out) NB159_0.out (by simp));have n2_:=Aside0.mk (KeepBut.blk hk (g':=gb163) (o:=.cells #[.int .i64 (wrap64 (1+t160)),u164001] 30 (0,0)) (by (with_reducible repeat (first|refine blk_drewN ?_ _|refine blk_drew ?_|refine blk_alloc ?_ _));refine blk_far ?_ NB163_164.out _;(with_reducible repeat (first|refine blk_drewN ?_ _|refine blk_drew ?_|refine blk_alloc ?_ _));refine blk_far ?_ NB163_164.out _;(with_reducible repeat (first|refine blk_drewN ?_ _|refine blk_drew ?_|refine blk_alloc ?_ _));refine blk_far ?_ NB163_164.out _;(with_reducible repeat (first|refine blk_drewN ?_ _|refine blk_drew ?_|refine blk_alloc ?_ _));exact BK163.out) NB163_0.out (by simp));have n3_:=Aside0.mk (KeepBut.blk hk (g':=gb164) (o:=.cells #[.int .i64 (wrap64 (x4_1 - 1)),.int .i64 (-1)] 88 (0,0)) (by (with_reducible repeat (first|refine blk_drewN ?_ _|refine blk_drew ?_|refine blk_alloc ?_ _));refine blk_put (cs:=#[.int .i64 (wrap64 (x4_1 - 1)),.int .i64 x4_1]) ?_ 1 _ rfl;(with_reducible repeat (first|refine blk_drewN ?_ _|refine blk_drew ?_|refine blk_alloc ?_ _));refine blk_put (cs:=#[.int .i64 (wrap64 (x4_1 - 1)),.int .i64 0]) ?_ 1 _ rfl;(with_reducible repeat (first|refine blk_drewN ?_ _|refine blk_drew ?_|refine blk_alloc ?_ _));refine blk_put (cs:=#[.int .i64 0,.int .i64 0]) ?_ 0 _ rfl;(with_reducible repeat (first|refine blk_drewN ?_ _|refine blk_drew ?_|refine blk_alloc ?_ _));exact BK164.out) NB164_0.out (by simp));have n4_:=Aside0.mk (KeepBut.trans (by repeat (first|(with_reducible first|exact HK.out|apply KeepBut.set_|apply keep_drewN|apply keep_drew|apply keep_alloc|refine keep_far ?_ GW159.out _|refine keep_far ?_ GW163.out _|refine keep_far ?_ GW164.out _)|exact HK.out)) hk (.inl rfl));have n5_:=Aside0.mk (hb);have n6_:=Aside0.mk (hi);clear HO_164001;clear BK159;clear BK163;clear BK164;clear HK;clear HB;clear HI0;have HO_164001:=n0_;have BK159:=n1_;have BK163:=n2_;have BK164:=n3_;have HK:=n4_;have HB:=n5_;have HI0:=n6_;clear n0_ n1_ n2_ n3_ n4_ n5_ n6_;(try clear hb);(try clear hb2);(try clear hk);(try clear hi);have hcz24_0:w23.cell? ⟨gb163,0,none⟩=some (.int .i64 (wrap64 (1+t160))):=(blk_cell BK163.out 0).trans rfl;have hcz24_1:w23.cell? ⟨gb163,1,none⟩=some (u164001):=(blk_cell BK163.out 1).trans rfl;have hfz24_0:=blk_frozen BK163.out 0;have hfz24_1:=blk_frozen BK163.out 1;have hcz25_0:w23.cell? ⟨gb164,0,none⟩=some (.int .i64 (wrap64 (x4_1 - 1))):=(blk_cell BK164.out 0).trans rfl;have hcz25_1:w23.cell? ⟨gb164,1,none⟩=some (.int .i64 (-1)):=(blk_cell BK164.out 1).trans rfl;have hfz25_0:=blk_frozen BK164.out 0;have hfz25_1:=blk_frozen BK164.out 1)|((with_reducible refine gate_builtin (b:=.append) (xs:=#[.tmp 32,.tmp 34]) rfl ?_);at_builtin;refine Kd.R_append k88 w.heap.size rfl (.tmp 32) (.tmp 34) 28 88 (.agg #[(.int .i64 0),(.int .i64 0)]) 16 rfl Try.underlying28 info88 rfl (by decide) (by omega) u164001 x164001_1 (⟨wrap64 (x4_1 - 1),(-1)⟩:S88) [.int .i64 (wrap64 (x4_1 - 1)),.int .i64 (-1)] (fun k_=>k_ ≠ gb164) (fun _=>False) rfl rfl ?aP (fun _ hk=>hk.elim) ?aF ?aO (Below.refl _ _) ?aS ?aL ?_;(case aP=>exact k88_mkM _ _ _ (⟨wrap64 (x4_1 - 1),(-1)⟩:S88));(case aF=>exact (fun k_ hk=>Kd.freshB (g:=gb164) (o:=.cells #[.int .i64 (wrap64 (x4_1 - 1)),.int .i64 (-1)] 88 (0,0)) (by (with_reducible repeat (first|refine blk_drewN ?_ _|refine blk_drew ?_|refine blk_alloc ?_ _));exact BK164.out) k_ hk));(case aO=>exact (by (with_reducible repeat (first|apply Kd.R_alloc|apply Kd.R_drewN|apply Kd.R_drew));exact Kd.R_mono HO_164001.out (fun _ hk=>hk.2)));(case aS=>exact (keep_size (w:=w) (g:=g) (row:=none) (by repeat (first|(with_reducible first|exact HK.out|apply KeepBut.set_|apply keep_drewN|apply keep_drew|apply keep_alloc|refine keep_far ?_ GW159.out _|refine keep_far ?_ GW163.out _|refine keep_far ?_ GW164.out _)|exact HK.out))));(case aL=>have:=LMc13.out;omega);intro v169 w26 ho hb hg hat;rw [← Ny168.out] at ho;have n0_:=Aside0.mk (blk_grown (g:=gb159) (o:=.cells #[.int .i64 0,.slice none 0 0] 30 (0,0)) (by (with_reducible repeat (first|refine blk_drewN ?_ _|refine blk_drew ?_|refine blk_alloc ?_ _));exact BK159.out) hg (Kd.R_ne HO_164001.out BK159.out (by decide)));have n1_:=Aside0.mk (blk_grown (g:=gb163) (o:=.cells #[.int .i64 (wrap64 (1+t160)),u164001] 30 (0,0)) (by (with_reducible repeat (first|refine blk_drewN ?_ _|refine blk_drew ?_|refine blk_alloc ?_ _));exact BK163.out) hg (Kd.R_ne HO_164001.out BK163.out (by decide)));have n2_:=Aside0.mk (IsS116.grown (by repeat (first|(with_reducible first|exact HI0.out|apply IsS116.alloc|apply IsS116.drewN|apply IsS116.drew|apply IsS116.set_1|apply IsS116.set_2|refine IsS116.far ?_ NB0_159.out _|refine IsS116.far ?_ NB0_163.out _|refine IsS116.far ?_ NB0_164.out _)|exact HI0.out)) hg (IsS116.own_ne HI0.out HO_164001.out (by decide)));have n3_:=Aside0.mk (blk_grown (g:=gb164) (o:=.cells #[.int .i64 (wrap64 (x4_1 - 1)),.int .i64 (-1)] 88 (0,0)) (by (with_reducible repeat (first|refine blk_drewN ?_ _|refine blk_drew ?_|refine blk_alloc ?_ _));exact BK164.out) hg (Kd.R_away HO_164001.out (fun _ hk=>hk.2)));have n4_:=Aside0.mk (below_weaken (by repeat (first|(with_reducible first|exact HB.out|apply below_alloc|apply pw_below_drewN|apply below_drew1|refine below_set ?_ (IsS116.ge HI0.out)|refine below_set ?_ GE159.out|refine below_set ?_ GE163.out|refine below_set ?_ GE164.out)|exact HB.out)) HL.out hb);have n5_:=Aside0.mk (KeepBut.trans (by repeat (first|(with_reducible first|exact HK.out|apply KeepBut.set_|apply keep_drewN|apply keep_drew|apply keep_alloc|refine keep_far ?_ GW159.out _|refine keep_far ?_ GW163.out _|refine keep_far ?_ GW164.out _)|exact HK.out)) (KeepBut.of_grown hg g) (Kd.R_base2 HO_164001.out));have n6_:=Aside0.mk (ho);clear BK159;clear BK163;clear HI0;clear BK164;clear HB;clear HK;clear HO_164001;have BK159:=n0_;have BK163:=n1_;have HI0:=n2_;have BK164:=n3_;have HB:=n4_;have HK:=n5_;have HO170:=n6_;clear n0_ n1_ n2_ n3_ n4_ n5_ n6_;clear ho hb hg hat;obtain ⟨Ao27,co27,eo27⟩:=Kd.R_slice HO170.out;subst eo27;have hcz28_0:w26.cell? ⟨gb163,0,none⟩=some (.int .i64 (wrap64 (1+t160))):=(blk_cell BK163.out 0).trans rfl;have hcz28_1:w26.cell? ⟨gb163,1,none⟩=some (u164001):=(blk_cell BK163.out 1).trans rfl;have hfz28_0:=blk_frozen BK163.out 0;have hfz28_1:=blk_frozen BK163.out 1))
       go_roundg k1
       case measure=>have:=HK1.out;omega
       case rel=>exact ⟨(wrap64 (x4_1+1)),(t166),(t167),(y168),(.slice Ao27 y168.length co27),(by first|rfl|(simp;done)|(simp [*];done)),H',⟨by have:=HK1.out;omega⟩,⟨by (with_reducible repeat (first|apply Kd.R_alloc|apply Kd.R_drewN|apply Kd.R_drew));exact Kd.R_mono (Kd.R_far (p:=⟨gb163,1,none⟩) (Kd.R_types HO170.out BK163.out (by decide)) (fun _ hk=>hk.2) (.slice Ao27 y168.length co27)) (fun _ hk=>trivial)⟩,⟨by (with_reducible repeat (first|refine blk_drewN ?_ _|refine blk_drew ?_|refine blk_alloc ?_ _));refine blk_far ?_ NB159_163.out _;(with_reducible repeat (first|refine blk_drewN ?_ _|refine blk_drew ?_|refine blk_alloc ?_ _));exact BK159.out⟩,⟨by (with_reducible repeat (first|refine blk_drewN ?_ _|refine blk_drew ?_|refine blk_alloc ?_ _));refine blk_put (cs:=#[.int .i64 (wrap64 (1+t160)),u164001]) ?_ 1 _ rfl;(with_reducible repeat (first|refine blk_drewN ?_ _|refine blk_drew ?_|refine blk_alloc ?_ _));exact BK163.out⟩,⟨by repeat (first|(with_reducible first|exact HI0.out|apply IsS116.alloc|apply IsS116.drewN|apply IsS116.drew|apply IsS116.set_1|apply IsS116.set_2|refine IsS116.far ?_ NB0_159.out _|refine IsS116.far ?_ NB0_163.out _|refine IsS116.far ?_ NB0_164.out _)|exact HI0.out)⟩,⟨by repeat (first|(with_reducible first|exact HK.out|apply KeepBut.set_|apply keep_drewN|apply keep_drew|apply keep_alloc|refine keep_far ?_ GW159.out _|refine keep_far ?_ GW163.out _|refine keep_far ?_ GW164.out _)|exact HK.out)⟩,⟨by repeat (first|(with_reducible first|exact HB.out|apply below_alloc|apply pw_below_drewN|apply below_drew1|refine below_set ?_ (IsS116.ge HI0.out)|refine below_set ?_ GE159.out|refine below_set ?_ GE163.out|refine below_set ?_ GE164.out)|exact HB.out)⟩⟩
      rw [if_neg c13] at H
      exact absurd H (by simp)
     rw [if_neg c12] at H
     have c12b0:decide (0<t165)=false:=decide_eq_false c12
     clear c12
     have H':=Aside0.mk H
     clear H
     have hnb29:=NB163_159.out
     have hnc29:=NB159_163.out
     have hnb30:=NB163_0.out
     have hnc30:=NB0_163.out
     have hcz31_0:wr.cell? ⟨gb163,0,none⟩=some (.int .i64 (wrap64 (1+t160))):=(blk_cell BK163.out 0).trans rfl
     have hcz31_1:wr.cell? ⟨gb163,1,none⟩=some (u164001):=(blk_cell BK163.out 1).trans rfl
     have hfz31_0:=blk_frozen BK163.out 0
     have hfz31_1:=blk_frozen BK163.out 1
     go_wp2_with (first|((with_reducible refine gate_dst (N:=5) rfl ?_);refine box_event ?hg (N:=5) ?hd (cs:=#[.int .i64 0,.int .i64 0]) (t:=88) ?hr ?_;(case hd=>rfl);(case hg=>rfl);(case hr=>first|(go_simp;done)|(go_simp;rfl));intro gb164 hg w32 hbox hb;have n0_:=Aside0.mk (Kd.R_below (Kd.R_elderB (by (with_reducible repeat (first|apply Kd.R_alloc|apply Kd.R_drewN|apply Kd.R_drew));exact HO_164001.out) gb164 (Nat.le_of_eq hg.symm)) hb);have n1_:=Aside0.mk (blk_below (g:=gb159) (o:=.cells #[.int .i64 0,.slice none 0 0] 30 (0,0)) (by (with_reducible repeat (first|refine blk_drewN ?_ _|refine blk_drew ?_|refine blk_alloc ?_ _));exact BK159.out) hb);have n2_:=Aside0.mk (blk_below (g:=gb163) (o:=.cells #[.int .i64 (wrap64 (1+t160)),u164001] 30 (0,0)) (by (with_reducible repeat (first|refine blk_drewN ?_ _|refine blk_drew ?_|refine blk_alloc ?_ _));exact BK163.out) hb);have n3_:=Aside0.mk (IsS116.below (by repeat (first|(with_reducible first|exact HI0.out|apply IsS116.alloc|apply IsS116.drewN|apply IsS116.drew|apply IsS116.set_1|apply IsS116.set_2|refine IsS116.far ?_ NB0_159.out _|refine IsS116.far ?_ NB0_163.out _)|exact HI0.out)) hb);have n4_:=Aside0.mk (KeepBut.trans (by repeat (first|(with_reducible first|exact HK.out|apply KeepBut.set_|apply keep_drewN|apply keep_drew|apply keep_alloc|refine keep_far ?_ GW159.out _|refine keep_far ?_ GW163.out _)|exact HK.out)) (KeepBut.of_below hb g none) (.inl rfl));have n5_:=Aside0.mk (below_step (by repeat (first|(with_reducible first|exact HB.out|apply below_alloc|apply pw_below_drewN|apply below_drew1|refine below_set ?_ (IsS116.ge HI0.out)|refine below_set ?_ GE159.out|refine below_set ?_ GE163.out)|exact HB.out)) hb);have n6_:=Aside0.mk (hbox);have n7_:=Aside0.mk ((by rw [hg];exact (keep_size (w:=w) (g:=g) (row:=none) (by repeat (first|(with_reducible first|exact HK.out|apply KeepBut.set_|apply keep_drewN|apply keep_drew|apply keep_alloc|refine keep_far ?_ GW159.out _|refine keep_far ?_ GW163.out _)|exact HK.out))):w.heap.size≤gb164));have n8_:=Aside0.mk ((Nat.le_trans HW0.out (by rw [hg];exact (keep_size (w:=w) (g:=g) (row:=none) (by repeat (first|(with_reducible first|exact HK.out|apply KeepBut.set_|apply keep_drewN|apply keep_drew|apply keep_alloc|refine keep_far ?_ GW159.out _|refine keep_far ?_ GW163.out _)|exact HK.out))):w.heap.size≤gb164):w0.heap.size≤gb164));have n9_:=Aside0.mk ((by rw [hg];exact Nat.ne_of_lt (blk_lt (g:=gb159) (o:=.cells #[.int .i64 0,.slice none 0 0] 30 (0,0)) (by (with_reducible repeat (first|refine blk_drewN ?_ _|refine blk_drew ?_|refine blk_alloc ?_ _));exact BK159.out)):gb159 ≠ gb164));have n10_:=Aside0.mk ((by rw [hg];exact Nat.ne_of_gt (blk_lt (g:=gb159) (o:=.cells #[.int .i64 0,.slice none 0 0] 30 (0,0)) (by (with_reducible repeat (first|refine blk_drewN ?_ _|refine blk_drew ?_|refine blk_alloc ?_ _));exact BK159.out)):gb164 ≠ gb159));have n11_:=Aside0.mk ((by rw [hg];exact Nat.ne_of_lt (blk_lt (g:=gb163) (o:=.cells #[.int .i64 (wrap64 (1+t160)),u164001] 30 (0,0)) (by (with_reducible repeat (first|refine blk_drewN ?_ _|refine blk_drew ?_|refine blk_alloc ?_ _));exact BK163.out)):gb163 ≠ gb164));have n12_:=Aside0.mk ((by rw [hg];exact Nat.ne_of_gt (blk_lt (g:=gb163) (o:=.cells #[.int .i64 (wrap64 (1+t160)),u164001] 30 (0,0)) (by (with_reducible repeat (first|refine blk_drewN ?_ _|refine blk_drew ?_|refine blk_alloc ?_ _));exact BK163.out)):gb164 ≠ gb163));have n13_:=Aside0.mk ((by rw [hg];exact Nat.ne_of_lt (IsS116.lt (show IsS116 w0 _ g s0_0 x1001_1 x1002_1 from by repeat (first|(with_reducible first|exact HI0.out|apply IsS116.alloc|apply IsS116.drewN|apply IsS116.drew|apply IsS116.set_1|apply IsS116.set_2|refine IsS116.far ?_ NB0_159.out _|refine IsS116.far ?_ NB0_163.out _)|exact HI0.out))):g ≠ gb164));have n14_:=Aside0.mk ((by rw [hg];exact Nat.ne_of_gt (IsS116.lt (show IsS116 w0 _ g s0_0 x1001_1 x1002_1 from by repeat (first|(with_reducible first|exact HI0.out|apply IsS116.alloc|apply IsS116.drewN|apply IsS116.drew|apply IsS116.set_1|apply IsS116.set_2|refine IsS116.far ?_ NB0_159.out _|refine IsS116.far ?_ NB0_163.out _)|exact HI0.out))):gb164 ≠ g));clear HO_164001;clear BK159;clear BK163;clear HI0;clear HK;clear HB;have HO_164001:=n0_;have BK159:=n1_;have BK163:=n2_;have HI0:=n3_;have HK:=n4_;have HB:=n5_;have BK164:=n6_;have GW164:=n7_;have GE164:=n8_;have NB159_164:=n9_;have NB164_159:=n10_;have NB163_164:=n11_;have NB164_163:=n12_;have NB0_164:=n13_;have NB164_0:=n14_;clear n0_ n1_ n2_ n3_ n4_ n5_ n6_ n7_ n8_ n9_ n10_ n11_ n12_ n13_ n14_;clear hb hbox hg;have hnb33:=NB164_159.out;have hnc33:=NB159_164.out;have hnb34:=NB164_163.out;have hnc34:=NB163_164.out;have hnb35:=NB164_0.out;have hnc35:=NB0_164.out;have hcz36_0:w32.cell? ⟨gb164,0,none⟩=some (.int .i64 0):=(blk_cell BK164.out 0).trans rfl;have hcz36_1:w32.cell? ⟨gb164,1,none⟩=some (.int .i64 0):=(blk_cell BK164.out 1).trans rfl;have hfz36_0:=blk_frozen BK164.out 0;have hfz36_1:=blk_frozen BK164.out 1;have hcz37_0:w32.cell? ⟨gb163,0,none⟩=some (.int .i64 (wrap64 (1+t160))):=(blk_cell BK163.out 0).trans rfl;have hcz37_1:w32.cell? ⟨gb163,1,none⟩=some (u164001):=(blk_cell BK163.out 1).trans rfl;have hfz37_0:=blk_frozen BK163.out 0;have hfz37_1:=blk_frozen BK163.out 1)|((with_reducible refine gate_callee (f:=108) rfl ?_);refine goesL_ (some 29) rfl rfl Try.func108 (by kernel_rfl) rfl #[.pointer (some ⟨g,0,none⟩),.int .i64 12] rfl (by (try simp only [List.map_toArray,List.map_cons,List.map_nil]);first|done|rfl|(simp only [List.length_drop,List.length_take];rfl)) ?_;(with_reducible refine (spec_l5Cur_pick.calls g s0_0 x1001_1 x1002_1 12 t165 t166 t167 w0 _ ?side1 ?side2 A11.out).mono ?_);(case side1=>repeat (first|(with_reducible first|exact HI0.out|apply IsS116.alloc|apply IsS116.drewN|apply IsS116.drew|apply IsS116.set_1|apply IsS116.set_2|refine IsS116.far ?_ NB0_159.out _|refine IsS116.far ?_ NB0_163.out _|refine IsS116.far ?_ NB0_164.out _)|exact HI0.out));(case side2=>repeat (first|(with_reducible first|exact HB.out|apply below_alloc|apply pw_below_drewN|apply below_drew1|refine below_set ?_ (IsS116.ge HI0.out)|refine below_set ?_ GE159.out|refine below_set ?_ GE163.out|refine below_set ?_ GE164.out)|exact HB.out));rintro e w38 ⟨rfl,hi,hb,hk⟩;refine ⟨_,rfl,?_⟩;have n0_:=Aside0.mk (Kd.R_mono (Kd.R_keep (IsS116.apart (show IsS116 w0 _ g s0_0 x1001_1 x1002_1 from by repeat (first|(with_reducible first|exact HI0.out|apply IsS116.alloc|apply IsS116.drewN|apply IsS116.drew|apply IsS116.set_1|apply IsS116.set_2|refine IsS116.far ?_ NB0_159.out _|refine IsS116.far ?_ NB0_163.out _|refine IsS116.far ?_ NB0_164.out _)|exact HI0.out)) (by (with_reducible repeat (first|apply Kd.R_alloc|apply Kd.R_drewN|apply Kd.R_drew));exact (Kd.R_mono (Kd.R_far (p:=⟨gb164,1,none⟩) (Kd.R_far (p:=⟨gb164,1,none⟩) (Kd.R_far (p:=⟨gb164,0,none⟩) (Kd.R_mono HO_164001.out (fun k_ hk=>(⟨hk,hk.2⟩:_∧k_ ≠ gb164))) (fun _ hk=>hk.2) (.int .i64 (wrap64 (x4_1 - 1)))) (fun _ hk=>hk.2) (.int .i64 x4_1)) (fun _ hk=>hk.2) (.int .i64 (-1))) (fun _ h_=>h_.1))) (by decide)) hk (fun _ h=>h.2)) (fun _ h=>h.1));have n1_:=Aside0.mk (KeepBut.blk hk (g':=gb159) (o:=.cells #[.int .i64 0,.slice none 0 0] 30 (0,0)) (by (with_reducible repeat (first|refine blk_drewN ?_ _|refine blk_drew ?_|refine blk_alloc ?_ _));refine blk_far ?_ NB159_164.out _;(with_reducible repeat (first|refine blk_drewN ?_ _|refine blk_drew ?_|refine blk_alloc ?_ _));refine blk_far ?_ NB159_164.out _;(with_reducible repeat (first|refine blk_drewN ?_ _|refine blk_drew ?_|refine blk_alloc ?_ _));refine blk_far ?_ NB159_164.out _;(with_reducible repeat (first|refine blk_drewN ?_ _|refine blk_drew ?_|refine blk_alloc ?_ _));exact BK159.out) NB159_0.out (by simp));have n2_:=Aside0.mk (KeepBut.blk hk (g':=gb163) (o:=.cells #[.int .i64 (wrap64 (1+t160)),u164001] 30 (0,0)) (by (with_reducible repeat (first|refine blk_drewN ?_ _|refine blk_drew ?_|refine blk_alloc ?_ _));refine blk_far ?_ NB163_164.out _;(with_reducible repeat (first|refine blk_drewN ?_ _|refine blk_drew ?_|refine blk_alloc ?_ _));refine blk_far ?_ NB163_164.out _;(with_reducible repeat (first|refine blk_drewN ?_ _|refine blk_drew ?_|refine blk_alloc ?_ _));refine blk_far ?_ NB163_164.out _;(with_reducible repeat (first|refine blk_drewN ?_ _|refine blk_drew ?_|refine blk_alloc ?_ _));exact BK163.out) NB163_0.out (by simp));have n3_:=Aside0.mk (KeepBut.blk hk (g':=gb164) (o:=.cells #[.int .i64 (wrap64 (x4_1 - 1)),.int .i64 (-1)] 88 (0,0)) (by (with_reducible repeat (first|refine blk_drewN ?_ _|refine blk_drew ?_|refine blk_alloc ?_ _));refine blk_put (cs:=#[.int .i64 (wrap64 (x4_1 - 1)),.int .i64 x4_1]) ?_ 1 _ rfl;(with_reducible repeat (first|refine blk_drewN ?_ _|refine blk_drew ?_|refine blk_alloc ?_ _));refine blk_put (cs:=#[.int .i64 (wrap64 (x4_1 - 1)),.int .i64 0]) ?_ 1 _ rfl;(with_reducible repeat (first|refine blk_drewN ?_ _|refine blk_drew ?_|refine blk_alloc ?_ _));refine blk_put (cs:=#[.int .i64 0,.int .i64 0]) ?_ 0 _ rfl;(with_reducible repeat (first|refine blk_drewN ?_ _|refine blk_drew ?_|refine blk_alloc ?_ _));exact BK164.out) NB164_0.out (by simp));have n4_:=Aside0.mk (KeepBut.trans (by repeat (first|(with_reducible first|exact HK.out|apply KeepBut.set_|apply keep_drewN|apply keep_drew|apply keep_alloc|refine keep_far ?_ GW159.out _|refine keep_far ?_ GW163.out _|refine keep_far ?_ GW164.out _)|exact HK.out)) hk (.inl rfl));have n5_:=Aside0.mk (hb);have n6_:=Aside0.mk (hi);clear HO_164001;clear BK159;clear BK163;clear BK164;clear HK;clear HB;clear HI0;have HO_164001:=n0_;have BK159:=n1_;have BK163:=n2_;have BK164:=n3_;have HK:=n4_;have HB:=n5_;have HI0:=n6_;clear n0_ n1_ n2_ n3_ n4_ n5_ n6_;(try clear hb);(try clear hb2);(try clear hk);(try clear hi)))
     go_roundg k1
     case measure=>have:=HK1.out;omega
     case rel=>exact ⟨(wrap64 (x4_1+1)),(t166),(t167),(x164001_1),(u164001),(by first|rfl|(simp;done)|(simp [*];done)),H',⟨by have:=HK1.out;omega⟩,⟨by (with_reducible repeat (first|apply Kd.R_alloc|apply Kd.R_drewN|apply Kd.R_drew));exact Kd.R_mono HO_164001.out (fun _ hk=>trivial)⟩,⟨by (with_reducible repeat (first|refine blk_drewN ?_ _|refine blk_drew ?_|refine blk_alloc ?_ _));exact BK159.out⟩,⟨by (with_reducible repeat (first|refine blk_drewN ?_ _|refine blk_drew ?_|refine blk_alloc ?_ _));exact BK163.out⟩,⟨by repeat (first|(with_reducible first|exact HI0.out|apply IsS116.alloc|apply IsS116.drewN|apply IsS116.drew|apply IsS116.set_1|apply IsS116.set_2|refine IsS116.far ?_ NB0_159.out _|refine IsS116.far ?_ NB0_163.out _|refine IsS116.far ?_ NB0_164.out _)|exact HI0.out)⟩,⟨by repeat (first|(with_reducible first|exact HK.out|apply KeepBut.set_|apply keep_drewN|apply keep_drew|apply keep_alloc|refine keep_far ?_ GW159.out _|refine keep_far ?_ GW163.out _|refine keep_far ?_ GW164.out _)|exact HK.out)⟩,⟨by repeat (first|(with_reducible first|exact HB.out|apply below_alloc|apply pw_below_drewN|apply below_drew1|refine below_set ?_ (IsS116.ge HI0.out)|refine below_set ?_ GE159.out|refine below_set ?_ GE163.out|refine below_set ?_ GE164.out)|exact HB.out)⟩⟩
    rw [if_neg c10] at H
    have c10b0:(x4_1==(wrap64 (1+t160)))=false:=beq_eq_false_iff_ne.mpr c10
    have c10b1:(x4_1 != (wrap64 (1+t160)))=true:=bne_iff_ne.mpr c10
    replace H:=Option.bind_eq_some_iff.mp H
    obtain ⟨⟨t171,t172,t173⟩,A390,H⟩:=H
    replace H:(if t171 > 0 then (if x164001_1.length<8796093022208 then (spec_l5Cur_layout.l0 k1 (wrap64 (x4_1+1)) s0_0 t172 t173 (wrap64 (1+t160)) (x164001_1 ++ [(⟨wrap64 (x4_1 - 1),x4_1⟩:S88)])) else (none)) else (spec_l5Cur_layout.l0 k1 (wrap64 (x4_1+1)) s0_0 t172 t173 (wrap64 (1+t160)) x164001_1))=some (r1,r2,r3,r4):=H
    have A39:=Aside0.mk A390
    clear A390
    by_cases c40:t171 > 0
    ·rw [if_pos c40] at H
     have c40b0:decide (0<t171)=true:=decide_eq_true c40
     clear c40
     by_cases c41:x164001_1.length<8796093022208
     ·rw [if_pos c41] at H
      have LMc41:=Aside0.mk c41
      clear c41
      obtain ⟨y174,hy174⟩:∃ y_:List (S88),y_=(x164001_1 ++ [(⟨wrap64 (x4_1 - 1),x4_1⟩:S88)]):=⟨_,rfl⟩
      replace H:(spec_l5Cur_layout.l0 k1 (wrap64 (x4_1+1)) s0_0 t172 t173 (wrap64 (1+t160)) y174)=some (r1,r2,r3,r4):=by first|(rw [hy174];with_reducible exact H)|(have H2_:=(Option.bind_some _ _).symm.trans H;rw [hy174];with_reducible exact H2_)|(have H2_:=(Option.bind_some _ _).symm.trans H;with_reducible exact H2_)|with_reducible exact H|(rw [hy174];exact H)|exact H
      have Ny174:=Aside0.mk hy174
      clear hy174
      have H':=Aside0.mk H
      clear H
      have hnb42:=NB163_159.out
      have hnc42:=NB159_163.out
      have hnb43:=NB163_0.out
      have hnc43:=NB0_163.out
      have hcz44_0:wr.cell? ⟨gb163,0,none⟩=some (.int .i64 (wrap64 (1+t160))):=(blk_cell BK163.out 0).trans rfl
      have hcz44_1:wr.cell? ⟨gb163,1,none⟩=some (u164001):=(blk_cell BK163.out 1).trans rfl
      have hfz44_0:=blk_frozen BK163.out 0
      have hfz44_1:=blk_frozen BK163.out 1
      go_wp2_with (first|((with_reducible refine gate_dst (N:=5) rfl ?_);refine box_event ?hg (N:=5) ?hd (cs:=#[.int .i64 0,.int .i64 0]) (t:=88) ?hr ?_;(case hd=>rfl);(case hg=>rfl);(case hr=>first|(go_simp;done)|(go_simp;rfl));intro gb164 hg w45 hbox hb;have n0_:=Aside0.mk (Kd.R_below (Kd.R_elderB (by (with_reducible repeat (first|apply Kd.R_alloc|apply Kd.R_drewN|apply Kd.R_drew));exact HO_164001.out) gb164 (Nat.le_of_eq hg.symm)) hb);have n1_:=Aside0.mk (blk_below (g:=gb159) (o:=.cells #[.int .i64 0,.slice none 0 0] 30 (0,0)) (by (with_reducible repeat (first|refine blk_drewN ?_ _|refine blk_drew ?_|refine blk_alloc ?_ _));exact BK159.out) hb);have n2_:=Aside0.mk (blk_below (g:=gb163) (o:=.cells #[.int .i64 (wrap64 (1+t160)),u164001] 30 (0,0)) (by (with_reducible repeat (first|refine blk_drewN ?_ _|refine blk_drew ?_|refine blk_alloc ?_ _));exact BK163.out) hb);have n3_:=Aside0.mk (IsS116.below (by repeat (first|(with_reducible first|exact HI0.out|apply IsS116.alloc|apply IsS116.drewN|apply IsS116.drew|apply IsS116.set_1|apply IsS116.set_2|refine IsS116.far ?_ NB0_159.out _|refine IsS116.far ?_ NB0_163.out _)|exact HI0.out)) hb);have n4_:=Aside0.mk (KeepBut.trans (by repeat (first|(with_reducible first|exact HK.out|apply KeepBut.set_|apply keep_drewN|apply keep_drew|apply keep_alloc|refine keep_far ?_ GW159.out _|refine keep_far ?_ GW163.out _)|exact HK.out)) (KeepBut.of_below hb g none) (.inl rfl));have n5_:=Aside0.mk (below_step (by repeat (first|(with_reducible first|exact HB.out|apply below_alloc|apply pw_below_drewN|apply below_drew1|refine below_set ?_ (IsS116.ge HI0.out)|refine below_set ?_ GE159.out|refine below_set ?_ GE163.out)|exact HB.out)) hb);have n6_:=Aside0.mk (hbox);have n7_:=Aside0.mk ((by rw [hg];exact (keep_size (w:=w) (g:=g) (row:=none) (by repeat (first|(with_reducible first|exact HK.out|apply KeepBut.set_|apply keep_drewN|apply keep_drew|apply keep_alloc|refine keep_far ?_ GW159.out _|refine keep_far ?_ GW163.out _)|exact HK.out))):w.heap.size≤gb164));have n8_:=Aside0.mk ((Nat.le_trans HW0.out (by rw [hg];exact (keep_size (w:=w) (g:=g) (row:=none) (by repeat (first|(with_reducible first|exact HK.out|apply KeepBut.set_|apply keep_drewN|apply keep_drew|apply keep_alloc|refine keep_far ?_ GW159.out _|refine keep_far ?_ GW163.out _)|exact HK.out))):w.heap.size≤gb164):w0.heap.size≤gb164));have n9_:=Aside0.mk ((by rw [hg];exact Nat.ne_of_lt (blk_lt (g:=gb159) (o:=.cells #[.int .i64 0,.slice none 0 0] 30 (0,0)) (by (with_reducible repeat (first|refine blk_drewN ?_ _|refine blk_drew ?_|refine blk_alloc ?_ _));exact BK159.out)):gb159 ≠ gb164));have n10_:=Aside0.mk ((by rw [hg];exact Nat.ne_of_gt (blk_lt (g:=gb159) (o:=.cells #[.int .i64 0,.slice none 0 0] 30 (0,0)) (by (with_reducible repeat (first|refine blk_drewN ?_ _|refine blk_drew ?_|refine blk_alloc ?_ _));exact BK159.out)):gb164 ≠ gb159));have n11_:=Aside0.mk ((by rw [hg];exact Nat.ne_of_lt (blk_lt (g:=gb163) (o:=.cells #[.int .i64 (wrap64 (1+t160)),u164001] 30 (0,0)) (by (with_reducible repeat (first|refine blk_drewN ?_ _|refine blk_drew ?_|refine blk_alloc ?_ _));exact BK163.out)):gb163 ≠ gb164));have n12_:=Aside0.mk ((by rw [hg];exact Nat.ne_of_gt (blk_lt (g:=gb163) (o:=.cells #[.int .i64 (wrap64 (1+t160)),u164001] 30 (0,0)) (by (with_reducible repeat (first|refine blk_drewN ?_ _|refine blk_drew ?_|refine blk_alloc ?_ _));exact BK163.out)):gb164 ≠ gb163));have n13_:=Aside0.mk ((by rw [hg];exact Nat.ne_of_lt (IsS116.lt (show IsS116 w0 _ g s0_0 x1001_1 x1002_1 from by repeat (first|(with_reducible first|exact HI0.out|apply IsS116.alloc|apply IsS116.drewN|apply IsS116.drew|apply IsS116.set_1|apply IsS116.set_2|refine IsS116.far ?_ NB0_159.out _|refine IsS116.far ?_ NB0_163.out _)|exact HI0.out))):g ≠ gb164));have n14_:=Aside0.mk ((by rw [hg];exact Nat.ne_of_gt (IsS116.lt (show IsS116 w0 _ g s0_0 x1001_1 x1002_1 from by repeat (first|(with_reducible first|exact HI0.out|apply IsS116.alloc|apply IsS116.drewN|apply IsS116.drew|apply IsS116.set_1|apply IsS116.set_2|refine IsS116.far ?_ NB0_159.out _|refine IsS116.far ?_ NB0_163.out _)|exact HI0.out))):gb164 ≠ g));clear HO_164001;clear BK159;clear BK163;clear HI0;clear HK;clear HB;have HO_164001:=n0_;have BK159:=n1_;have BK163:=n2_;have HI0:=n3_;have HK:=n4_;have HB:=n5_;have BK164:=n6_;have GW164:=n7_;have GE164:=n8_;have NB159_164:=n9_;have NB164_159:=n10_;have NB163_164:=n11_;have NB164_163:=n12_;have NB0_164:=n13_;have NB164_0:=n14_;clear n0_ n1_ n2_ n3_ n4_ n5_ n6_ n7_ n8_ n9_ n10_ n11_ n12_ n13_ n14_;clear hb hbox hg;have hnb46:=NB164_159.out;have hnc46:=NB159_164.out;have hnb47:=NB164_163.out;have hnc47:=NB163_164.out;have hnb48:=NB164_0.out;have hnc48:=NB0_164.out;have hcz49_0:w45.cell? ⟨gb164,0,none⟩=some (.int .i64 0):=(blk_cell BK164.out 0).trans rfl;have hcz49_1:w45.cell? ⟨gb164,1,none⟩=some (.int .i64 0):=(blk_cell BK164.out 1).trans rfl;have hfz49_0:=blk_frozen BK164.out 0;have hfz49_1:=blk_frozen BK164.out 1;have hcz50_0:w45.cell? ⟨gb163,0,none⟩=some (.int .i64 (wrap64 (1+t160))):=(blk_cell BK163.out 0).trans rfl;have hcz50_1:w45.cell? ⟨gb163,1,none⟩=some (u164001):=(blk_cell BK163.out 1).trans rfl;have hfz50_0:=blk_frozen BK163.out 0;have hfz50_1:=blk_frozen BK163.out 1)|((with_reducible refine gate_callee (f:=108) rfl ?_);refine goesL_ (some 29) rfl rfl Try.func108 (by kernel_rfl) rfl #[.pointer (some ⟨g,0,none⟩),.int .i64 12] rfl (by (try simp only [List.map_toArray,List.map_cons,List.map_nil]);first|done|rfl|(simp only [List.length_drop,List.length_take];rfl)) ?_;(with_reducible refine (spec_l5Cur_pick.calls g s0_0 x1001_1 x1002_1 12 t171 t172 t173 w0 _ ?side1 ?side2 A39.out).mono ?_);(case side1=>repeat (first|(with_reducible first|exact HI0.out|apply IsS116.alloc|apply IsS116.drewN|apply IsS116.drew|apply IsS116.set_1|apply IsS116.set_2|refine IsS116.far ?_ NB0_159.out _|refine IsS116.far ?_ NB0_163.out _|refine IsS116.far ?_ NB0_164.out _)|exact HI0.out));(case side2=>repeat (first|(with_reducible first|exact HB.out|apply below_alloc|apply pw_below_drewN|apply below_drew1|refine below_set ?_ (IsS116.ge HI0.out)|refine below_set ?_ GE159.out|refine below_set ?_ GE163.out|refine below_set ?_ GE164.out)|exact HB.out));rintro e w51 ⟨rfl,hi,hb,hk⟩;refine ⟨_,rfl,?_⟩;have n0_:=Aside0.mk (Kd.R_mono (Kd.R_keep (IsS116.apart (show IsS116 w0 _ g s0_0 x1001_1 x1002_1 from by repeat (first|(with_reducible first|exact HI0.out|apply IsS116.alloc|apply IsS116.drewN|apply IsS116.drew|apply IsS116.set_1|apply IsS116.set_2|refine IsS116.far ?_ NB0_159.out _|refine IsS116.far ?_ NB0_163.out _|refine IsS116.far ?_ NB0_164.out _)|exact HI0.out)) (by (with_reducible repeat (first|apply Kd.R_alloc|apply Kd.R_drewN|apply Kd.R_drew));exact (Kd.R_mono (Kd.R_far (p:=⟨gb164,1,none⟩) (Kd.R_far (p:=⟨gb164,0,none⟩) (Kd.R_mono HO_164001.out (fun k_ hk=>(⟨hk,hk.2⟩:_∧k_ ≠ gb164))) (fun _ hk=>hk.2) (.int .i64 (wrap64 (x4_1 - 1)))) (fun _ hk=>hk.2) (.int .i64 x4_1)) (fun _ h_=>h_.1))) (by decide)) hk (fun _ h=>h.2)) (fun _ h=>h.1));have n1_:=Aside0.mk (KeepBut.blk hk (g':=gb159) (o:=.cells #[.int .i64 0,.slice none 0 0] 30 (0,0)) (by (with_reducible repeat (first|refine blk_drewN ?_ _|refine blk_drew ?_|refine blk_alloc ?_ _));refine blk_far ?_ NB159_164.out _;(with_reducible repeat (first|refine blk_drewN ?_ _|refine blk_drew ?_|refine blk_alloc ?_ _));refine blk_far ?_ NB159_164.out _;(with_reducible repeat (first|refine blk_drewN ?_ _|refine blk_drew ?_|refine blk_alloc ?_ _));exact BK159.out) NB159_0.out (by simp));have n2_:=Aside0.mk (KeepBut.blk hk (g':=gb163) (o:=.cells #[.int .i64 (wrap64 (1+t160)),u164001] 30 (0,0)) (by (with_reducible repeat (first|refine blk_drewN ?_ _|refine blk_drew ?_|refine blk_alloc ?_ _));refine blk_far ?_ NB163_164.out _;(with_reducible repeat (first|refine blk_drewN ?_ _|refine blk_drew ?_|refine blk_alloc ?_ _));refine blk_far ?_ NB163_164.out _;(with_reducible repeat (first|refine blk_drewN ?_ _|refine blk_drew ?_|refine blk_alloc ?_ _));exact BK163.out) NB163_0.out (by simp));have n3_:=Aside0.mk (KeepBut.blk hk (g':=gb164) (o:=.cells #[.int .i64 (wrap64 (x4_1 - 1)),.int .i64 x4_1] 88 (0,0)) (by (with_reducible repeat (first|refine blk_drewN ?_ _|refine blk_drew ?_|refine blk_alloc ?_ _));refine blk_put (cs:=#[.int .i64 (wrap64 (x4_1 - 1)),.int .i64 0]) ?_ 1 _ rfl;(with_reducible repeat (first|refine blk_drewN ?_ _|refine blk_drew ?_|refine blk_alloc ?_ _));refine blk_put (cs:=#[.int .i64 0,.int .i64 0]) ?_ 0 _ rfl;(with_reducible repeat (first|refine blk_drewN ?_ _|refine blk_drew ?_|refine blk_alloc ?_ _));exact BK164.out) NB164_0.out (by simp));have n4_:=Aside0.mk (KeepBut.trans (by repeat (first|(with_reducible first|exact HK.out|apply KeepBut.set_|apply keep_drewN|apply keep_drew|apply keep_alloc|refine keep_far ?_ GW159.out _|refine keep_far ?_ GW163.out _|refine keep_far ?_ GW164.out _)|exact HK.out)) hk (.inl rfl));have n5_:=Aside0.mk (hb);have n6_:=Aside0.mk (hi);clear HO_164001;clear BK159;clear BK163;clear BK164;clear HK;clear HB;clear HI0;have HO_164001:=n0_;have BK159:=n1_;have BK163:=n2_;have BK164:=n3_;have HK:=n4_;have HB:=n5_;have HI0:=n6_;clear n0_ n1_ n2_ n3_ n4_ n5_ n6_;(try clear hb);(try clear hb2);(try clear hk);(try clear hi);have hcz52_0:w51.cell? ⟨gb163,0,none⟩=some (.int .i64 (wrap64 (1+t160))):=(blk_cell BK163.out 0).trans rfl;have hcz52_1:w51.cell? ⟨gb163,1,none⟩=some (u164001):=(blk_cell BK163.out 1).trans rfl;have hfz52_0:=blk_frozen BK163.out 0;have hfz52_1:=blk_frozen BK163.out 1;have hcz53_0:w51.cell? ⟨gb164,0,none⟩=some (.int .i64 (wrap64 (x4_1 - 1))):=(blk_cell BK164.out 0).trans rfl;have hcz53_1:w51.cell? ⟨gb164,1,none⟩=some (.int .i64 x4_1):=(blk_cell BK164.out 1).trans rfl;have hfz53_0:=blk_frozen BK164.out 0;have hfz53_1:=blk_frozen BK164.out 1)|((with_reducible refine gate_builtin (b:=.append) (xs:=#[.tmp 32,.tmp 34]) rfl ?_);at_builtin;refine Kd.R_append k88 w.heap.size rfl (.tmp 32) (.tmp 34) 28 88 (.agg #[(.int .i64 0),(.int .i64 0)]) 16 rfl Try.underlying28 info88 rfl (by decide) (by omega) u164001 x164001_1 (⟨wrap64 (x4_1 - 1),x4_1⟩:S88) [.int .i64 (wrap64 (x4_1 - 1)),.int .i64 x4_1] (fun k_=>k_ ≠ gb164) (fun _=>False) rfl rfl ?aP (fun _ hk=>hk.elim) ?aF ?aO (Below.refl _ _) ?aS ?aL ?_;(case aP=>exact k88_mkM _ _ _ (⟨wrap64 (x4_1 - 1),x4_1⟩:S88));(case aF=>exact (fun k_ hk=>Kd.freshB (g:=gb164) (o:=.cells #[.int .i64 (wrap64 (x4_1 - 1)),.int .i64 x4_1] 88 (0,0)) (by (with_reducible repeat (first|refine blk_drewN ?_ _|refine blk_drew ?_|refine blk_alloc ?_ _));exact BK164.out) k_ hk));(case aO=>exact (by (with_reducible repeat (first|apply Kd.R_alloc|apply Kd.R_drewN|apply Kd.R_drew));exact Kd.R_mono HO_164001.out (fun _ hk=>hk.2)));(case aS=>exact (keep_size (w:=w) (g:=g) (row:=none) (by repeat (first|(with_reducible first|exact HK.out|apply KeepBut.set_|apply keep_drewN|apply keep_drew|apply keep_alloc|refine keep_far ?_ GW159.out _|refine keep_far ?_ GW163.out _|refine keep_far ?_ GW164.out _)|exact HK.out))));(case aL=>have:=LMc41.out;omega);intro v175 w54 ho hb hg hat;rw [← Ny174.out] at ho;have n0_:=Aside0.mk (blk_grown (g:=gb159) (o:=.cells #[.int .i64 0,.slice none 0 0] 30 (0,0)) (by (with_reducible repeat (first|refine blk_drewN ?_ _|refine blk_drew ?_|refine blk_alloc ?_ _));exact BK159.out) hg (Kd.R_ne HO_164001.out BK159.out (by decide)));have n1_:=Aside0.mk (blk_grown (g:=gb163) (o:=.cells #[.int .i64 (wrap64 (1+t160)),u164001] 30 (0,0)) (by (with_reducible repeat (first|refine blk_drewN ?_ _|refine blk_drew ?_|refine blk_alloc ?_ _));exact BK163.out) hg (Kd.R_ne HO_164001.out BK163.out (by decide)));have n2_:=Aside0.mk (IsS116.grown (by repeat (first|(with_reducible first|exact HI0.out|apply IsS116.alloc|apply IsS116.drewN|apply IsS116.drew|apply IsS116.set_1|apply IsS116.set_2|refine IsS116.far ?_ NB0_159.out _|refine IsS116.far ?_ NB0_163.out _|refine IsS116.far ?_ NB0_164.out _)|exact HI0.out)) hg (IsS116.own_ne HI0.out HO_164001.out (by decide)));have n3_:=Aside0.mk (blk_grown (g:=gb164) (o:=.cells #[.int .i64 (wrap64 (x4_1 - 1)),.int .i64 x4_1] 88 (0,0)) (by (with_reducible repeat (first|refine blk_drewN ?_ _|refine blk_drew ?_|refine blk_alloc ?_ _));exact BK164.out) hg (Kd.R_away HO_164001.out (fun _ hk=>hk.2)));have n4_:=Aside0.mk (below_weaken (by repeat (first|(with_reducible first|exact HB.out|apply below_alloc|apply pw_below_drewN|apply below_drew1|refine below_set ?_ (IsS116.ge HI0.out)|refine below_set ?_ GE159.out|refine below_set ?_ GE163.out|refine below_set ?_ GE164.out)|exact HB.out)) HL.out hb);have n5_:=Aside0.mk (KeepBut.trans (by repeat (first|(with_reducible first|exact HK.out|apply KeepBut.set_|apply keep_drewN|apply keep_drew|apply keep_alloc|refine keep_far ?_ GW159.out _|refine keep_far ?_ GW163.out _|refine keep_far ?_ GW164.out _)|exact HK.out)) (KeepBut.of_grown hg g) (Kd.R_base2 HO_164001.out));have n6_:=Aside0.mk (ho);clear BK159;clear BK163;clear HI0;clear BK164;clear HB;clear HK;clear HO_164001;have BK159:=n0_;have BK163:=n1_;have HI0:=n2_;have BK164:=n3_;have HB:=n4_;have HK:=n5_;have HO176:=n6_;clear n0_ n1_ n2_ n3_ n4_ n5_ n6_;clear ho hb hg hat;obtain ⟨Ao55,co55,eo55⟩:=Kd.R_slice HO176.out;subst eo55;have hcz56_0:w54.cell? ⟨gb163,0,none⟩=some (.int .i64 (wrap64 (1+t160))):=(blk_cell BK163.out 0).trans rfl;have hcz56_1:w54.cell? ⟨gb163,1,none⟩=some (u164001):=(blk_cell BK163.out 1).trans rfl;have hfz56_0:=blk_frozen BK163.out 0;have hfz56_1:=blk_frozen BK163.out 1))
      go_roundg k1
      case measure=>have:=HK1.out;omega
      case rel=>exact ⟨(wrap64 (x4_1+1)),(t172),(t173),(y174),(.slice Ao55 y174.length co55),(by first|rfl|(simp;done)|(simp [*];done)),H',⟨by have:=HK1.out;omega⟩,⟨by (with_reducible repeat (first|apply Kd.R_alloc|apply Kd.R_drewN|apply Kd.R_drew));exact Kd.R_mono (Kd.R_far (p:=⟨gb163,1,none⟩) (Kd.R_types HO176.out BK163.out (by decide)) (fun _ hk=>hk.2) (.slice Ao55 y174.length co55)) (fun _ hk=>trivial)⟩,⟨by (with_reducible repeat (first|refine blk_drewN ?_ _|refine blk_drew ?_|refine blk_alloc ?_ _));refine blk_far ?_ NB159_163.out _;(with_reducible repeat (first|refine blk_drewN ?_ _|refine blk_drew ?_|refine blk_alloc ?_ _));exact BK159.out⟩,⟨by (with_reducible repeat (first|refine blk_drewN ?_ _|refine blk_drew ?_|refine blk_alloc ?_ _));refine blk_put (cs:=#[.int .i64 (wrap64 (1+t160)),u164001]) ?_ 1 _ rfl;(with_reducible repeat (first|refine blk_drewN ?_ _|refine blk_drew ?_|refine blk_alloc ?_ _));exact BK163.out⟩,⟨by repeat (first|(with_reducible first|exact HI0.out|apply IsS116.alloc|apply IsS116.drewN|apply IsS116.drew|apply IsS116.set_1|apply IsS116.set_2|refine IsS116.far ?_ NB0_159.out _|refine IsS116.far ?_ NB0_163.out _|refine IsS116.far ?_ NB0_164.out _)|exact HI0.out)⟩,⟨by repeat (first|(with_reducible first|exact HK.out|apply KeepBut.set_|apply keep_drewN|apply keep_drew|apply keep_alloc|refine keep_far ?_ GW159.out _|refine keep_far ?_ GW163.out _|refine keep_far ?_ GW164.out _)|exact HK.out)⟩,⟨by repeat (first|(with_reducible first|exact HB.out|apply below_alloc|apply pw_below_drewN|apply below_drew1|refine below_set ?_ (IsS116.ge HI0.out)|refine below_set ?_ GE159.out|refine below_set ?_ GE163.out|refine below_set ?_ GE164.out)|exact HB.out)⟩⟩
     rw [if_neg c41] at H
     exact absurd H (by simp)
    rw [if_neg c40] at H
    have c40b0:decide (0<t171)=false:=decide_eq_false c40
    clear c40
    have H':=Aside0.mk H
    clear H
    have hnb57:=NB163_159.out
    have hnc57:=NB159_163.out
    have hnb58:=NB163_0.out
    have hnc58:=NB0_163.out
    have hcz59_0:wr.cell? ⟨gb163,0,none⟩=some (.int .i64 (wrap64 (1+t160))):=(blk_cell BK163.out 0).trans rfl
    have hcz59_1:wr.cell? ⟨gb163,1,none⟩=some (u164001):=(blk_cell BK163.out 1).trans rfl
    have hfz59_0:=blk_frozen BK163.out 0
    have hfz59_1:=blk_frozen BK163.out 1
    go_wp2_with (first|((with_reducible refine gate_dst (N:=5) rfl ?_);refine box_event ?hg (N:=5) ?hd (cs:=#[.int .i64 0,.int .i64 0]) (t:=88) ?hr ?_;(case hd=>rfl);(case hg=>rfl);(case hr=>first|(go_simp;done)|(go_simp;rfl));intro gb164 hg w60 hbox hb;have n0_:=Aside0.mk (Kd.R_below (Kd.R_elderB (by (with_reducible repeat (first|apply Kd.R_alloc|apply Kd.R_drewN|apply Kd.R_drew));exact HO_164001.out) gb164 (Nat.le_of_eq hg.symm)) hb);have n1_:=Aside0.mk (blk_below (g:=gb159) (o:=.cells #[.int .i64 0,.slice none 0 0] 30 (0,0)) (by (with_reducible repeat (first|refine blk_drewN ?_ _|refine blk_drew ?_|refine blk_alloc ?_ _));exact BK159.out) hb);have n2_:=Aside0.mk (blk_below (g:=gb163) (o:=.cells #[.int .i64 (wrap64 (1+t160)),u164001] 30 (0,0)) (by (with_reducible repeat (first|refine blk_drewN ?_ _|refine blk_drew ?_|refine blk_alloc ?_ _));exact BK163.out) hb);have n3_:=Aside0.mk (IsS116.below (by repeat (first|(with_reducible first|exact HI0.out|apply IsS116.alloc|apply IsS116.drewN|apply IsS116.drew|apply IsS116.set_1|apply IsS116.set_2|refine IsS116.far ?_ NB0_159.out _|refine IsS116.far ?_ NB0_163.out _)|exact HI0.out)) hb);have n4_:=Aside0.mk (KeepBut.trans (by repeat (first|(with_reducible first|exact HK.out|apply KeepBut.set_|apply keep_drewN|apply keep_drew|apply keep_alloc|refine keep_far ?_ GW159.out _|refine keep_far ?_ GW163.out _)|exact HK.out)) (KeepBut.of_below hb g none) (.inl rfl));have n5_:=Aside0.mk (below_step (by repeat (first|(with_reducible first|exact HB.out|apply below_alloc|apply pw_below_drewN|apply below_drew1|refine below_set ?_ (IsS116.ge HI0.out)|refine below_set ?_ GE159.out|refine below_set ?_ GE163.out)|exact HB.out)) hb);have n6_:=Aside0.mk (hbox);have n7_:=Aside0.mk ((by rw [hg];exact (keep_size (w:=w) (g:=g) (row:=none) (by repeat (first|(with_reducible first|exact HK.out|apply KeepBut.set_|apply keep_drewN|apply keep_drew|apply keep_alloc|refine keep_far ?_ GW159.out _|refine keep_far ?_ GW163.out _)|exact HK.out))):w.heap.size≤gb164));have n8_:=Aside0.mk ((Nat.le_trans HW0.out (by rw [hg];exact (keep_size (w:=w) (g:=g) (row:=none) (by repeat (first|(with_reducible first|exact HK.out|apply KeepBut.set_|apply keep_drewN|apply keep_drew|apply keep_alloc|refine keep_far ?_ GW159.out _|refine keep_far ?_ GW163.out _)|exact HK.out))):w.heap.size≤gb164):w0.heap.size≤gb164));have n9_:=Aside0.mk ((by rw [hg];exact Nat.ne_of_lt (blk_lt (g:=gb159) (o:=.cells #[.int .i64 0,.slice none 0 0] 30 (0,0)) (by (with_reducible repeat (first|refine blk_drewN ?_ _|refine blk_drew ?_|refine blk_alloc ?_ _));exact BK159.out)):gb159 ≠ gb164));have n10_:=Aside0.mk ((by rw [hg];exact Nat.ne_of_gt (blk_lt (g:=gb159) (o:=.cells #[.int .i64 0,.slice none 0 0] 30 (0,0)) (by (with_reducible repeat (first|refine blk_drewN ?_ _|refine blk_drew ?_|refine blk_alloc ?_ _));exact BK159.out)):gb164 ≠ gb159));have n11_:=Aside0.mk ((by rw [hg];exact Nat.ne_of_lt (blk_lt (g:=gb163) (o:=.cells #[.int .i64 (wrap64 (1+t160)),u164001] 30 (0,0)) (by (with_reducible repeat (first|refine blk_drewN ?_ _|refine blk_drew ?_|refine blk_alloc ?_ _));exact BK163.out)):gb163 ≠ gb164));have n12_:=Aside0.mk ((by rw [hg];exact Nat.ne_of_gt (blk_lt (g:=gb163) (o:=.cells #[.int .i64 (wrap64 (1+t160)),u164001] 30 (0,0)) (by (with_reducible repeat (first|refine blk_drewN ?_ _|refine blk_drew ?_|refine blk_alloc ?_ _));exact BK163.out)):gb164 ≠ gb163));have n13_:=Aside0.mk ((by rw [hg];exact Nat.ne_of_lt (IsS116.lt (show IsS116 w0 _ g s0_0 x1001_1 x1002_1 from by repeat (first|(with_reducible first|exact HI0.out|apply IsS116.alloc|apply IsS116.drewN|apply IsS116.drew|apply IsS116.set_1|apply IsS116.set_2|refine IsS116.far ?_ NB0_159.out _|refine IsS116.far ?_ NB0_163.out _)|exact HI0.out))):g ≠ gb164));have n14_:=Aside0.mk ((by rw [hg];exact Nat.ne_of_gt (IsS116.lt (show IsS116 w0 _ g s0_0 x1001_1 x1002_1 from by repeat (first|(with_reducible first|exact HI0.out|apply IsS116.alloc|apply IsS116.drewN|apply IsS116.drew|apply IsS116.set_1|apply IsS116.set_2|refine IsS116.far ?_ NB0_159.out _|refine IsS116.far ?_ NB0_163.out _)|exact HI0.out))):gb164 ≠ g));clear HO_164001;clear BK159;clear BK163;clear HI0;clear HK;clear HB;have HO_164001:=n0_;have BK159:=n1_;have BK163:=n2_;have HI0:=n3_;have HK:=n4_;have HB:=n5_;have BK164:=n6_;have GW164:=n7_;have GE164:=n8_;have NB159_164:=n9_;have NB164_159:=n10_;have NB163_164:=n11_;have NB164_163:=n12_;have NB0_164:=n13_;have NB164_0:=n14_;clear n0_ n1_ n2_ n3_ n4_ n5_ n6_ n7_ n8_ n9_ n10_ n11_ n12_ n13_ n14_;clear hb hbox hg;have hnb61:=NB164_159.out;have hnc61:=NB159_164.out;have hnb62:=NB164_163.out;have hnc62:=NB163_164.out;have hnb63:=NB164_0.out;have hnc63:=NB0_164.out;have hcz64_0:w60.cell? ⟨gb164,0,none⟩=some (.int .i64 0):=(blk_cell BK164.out 0).trans rfl;have hcz64_1:w60.cell? ⟨gb164,1,none⟩=some (.int .i64 0):=(blk_cell BK164.out 1).trans rfl;have hfz64_0:=blk_frozen BK164.out 0;have hfz64_1:=blk_frozen BK164.out 1;have hcz65_0:w60.cell? ⟨gb163,0,none⟩=some (.int .i64 (wrap64 (1+t160))):=(blk_cell BK163.out 0).trans rfl;have hcz65_1:w60.cell? ⟨gb163,1,none⟩=some (u164001):=(blk_cell BK163.out 1).trans rfl;have hfz65_0:=blk_frozen BK163.out 0;have hfz65_1:=blk_frozen BK163.out 1)|((with_reducible refine gate_callee (f:=108) rfl ?_);refine goesL_ (some 29) rfl rfl Try.func108 (by kernel_rfl) rfl #[.pointer (some ⟨g,0,none⟩),.int .i64 12] rfl (by (try simp only [List.map_toArray,List.map_cons,List.map_nil]);first|done|rfl|(simp only [List.length_drop,List.length_take];rfl)) ?_;(with_reducible refine (spec_l5Cur_pick.calls g s0_0 x1001_1 x1002_1 12 t171 t172 t173 w0 _ ?side1 ?side2 A39.out).mono ?_);(case side1=>repeat (first|(with_reducible first|exact HI0.out|apply IsS116.alloc|apply IsS116.drewN|apply IsS116.drew|apply IsS116.set_1|apply IsS116.set_2|refine IsS116.far ?_ NB0_159.out _|refine IsS116.far ?_ NB0_163.out _|refine IsS116.far ?_ NB0_164.out _)|exact HI0.out));(case side2=>repeat (first|(with_reducible first|exact HB.out|apply below_alloc|apply pw_below_drewN|apply below_drew1|refine below_set ?_ (IsS116.ge HI0.out)|refine below_set ?_ GE159.out|refine below_set ?_ GE163.out|refine below_set ?_ GE164.out)|exact HB.out));rintro e w66 ⟨rfl,hi,hb,hk⟩;refine ⟨_,rfl,?_⟩;have n0_:=Aside0.mk (Kd.R_mono (Kd.R_keep (IsS116.apart (show IsS116 w0 _ g s0_0 x1001_1 x1002_1 from by repeat (first|(with_reducible first|exact HI0.out|apply IsS116.alloc|apply IsS116.drewN|apply IsS116.drew|apply IsS116.set_1|apply IsS116.set_2|refine IsS116.far ?_ NB0_159.out _|refine IsS116.far ?_ NB0_163.out _|refine IsS116.far ?_ NB0_164.out _)|exact HI0.out)) (by (with_reducible repeat (first|apply Kd.R_alloc|apply Kd.R_drewN|apply Kd.R_drew));exact (Kd.R_mono (Kd.R_far (p:=⟨gb164,1,none⟩) (Kd.R_far (p:=⟨gb164,0,none⟩) (Kd.R_mono HO_164001.out (fun k_ hk=>(⟨hk,hk.2⟩:_∧k_ ≠ gb164))) (fun _ hk=>hk.2) (.int .i64 (wrap64 (x4_1 - 1)))) (fun _ hk=>hk.2) (.int .i64 x4_1)) (fun _ h_=>h_.1))) (by decide)) hk (fun _ h=>h.2)) (fun _ h=>h.1));have n1_:=Aside0.mk (KeepBut.blk hk (g':=gb159) (o:=.cells #[.int .i64 0,.slice none 0 0] 30 (0,0)) (by (with_reducible repeat (first|refine blk_drewN ?_ _|refine blk_drew ?_|refine blk_alloc ?_ _));refine blk_far ?_ NB159_164.out _;(with_reducible repeat (first|refine blk_drewN ?_ _|refine blk_drew ?_|refine blk_alloc ?_ _));refine blk_far ?_ NB159_164.out _;(with_reducible repeat (first|refine blk_drewN ?_ _|refine blk_drew ?_|refine blk_alloc ?_ _));exact BK159.out) NB159_0.out (by simp));have n2_:=Aside0.mk (KeepBut.blk hk (g':=gb163) (o:=.cells #[.int .i64 (wrap64 (1+t160)),u164001] 30 (0,0)) (by (with_reducible repeat (first|refine blk_drewN ?_ _|refine blk_drew ?_|refine blk_alloc ?_ _));refine blk_far ?_ NB163_164.out _;(with_reducible repeat (first|refine blk_drewN ?_ _|refine blk_drew ?_|refine blk_alloc ?_ _));refine blk_far ?_ NB163_164.out _;(with_reducible repeat (first|refine blk_drewN ?_ _|refine blk_drew ?_|refine blk_alloc ?_ _));exact BK163.out) NB163_0.out (by simp));have n3_:=Aside0.mk (KeepBut.blk hk (g':=gb164) (o:=.cells #[.int .i64 (wrap64 (x4_1 - 1)),.int .i64 x4_1] 88 (0,0)) (by (with_reducible repeat (first|refine blk_drewN ?_ _|refine blk_drew ?_|refine blk_alloc ?_ _));refine blk_put (cs:=#[.int .i64 (wrap64 (x4_1 - 1)),.int .i64 0]) ?_ 1 _ rfl;(with_reducible repeat (first|refine blk_drewN ?_ _|refine blk_drew ?_|refine blk_alloc ?_ _));refine blk_put (cs:=#[.int .i64 0,.int .i64 0]) ?_ 0 _ rfl;(with_reducible repeat (first|refine blk_drewN ?_ _|refine blk_drew ?_|refine blk_alloc ?_ _));exact BK164.out) NB164_0.out (by simp));have n4_:=Aside0.mk (KeepBut.trans (by repeat (first|(with_reducible first|exact HK.out|apply KeepBut.set_|apply keep_drewN|apply keep_drew|apply keep_alloc|refine keep_far ?_ GW159.out _|refine keep_far ?_ GW163.out _|refine keep_far ?_ GW164.out _)|exact HK.out)) hk (.inl rfl));have n5_:=Aside0.mk (hb);have n6_:=Aside0.mk (hi);clear HO_164001;clear BK159;clear BK163;clear BK164;clear HK;clear HB;clear HI0;have HO_164001:=n0_;have BK159:=n1_;have BK163:=n2_;have BK164:=n3_;have HK:=n4_;have HB:=n5_;have HI0:=n6_;clear n0_ n1_ n2_ n3_ n4_ n5_ n6_;(try clear hb);(try clear hb2);(try clear hk);(try clear hi)))
    go_roundg k1
    case measure=>have:=HK1.out;omega
    case rel=>exact ⟨(wrap64 (x4_1+1)),(t172),(t173),(x164001_1),(u164001),(by first|rfl|(simp;done)|(simp [*];done)),H',⟨by have:=HK1.out;omega⟩,⟨by (with_reducible repeat (first|apply Kd.R_alloc|apply Kd.R_drewN|apply Kd.R_drew));exact Kd.R_mono HO_164001.out (fun _ hk=>trivial)⟩,⟨by (with_reducible repeat (first|refine blk_drewN ?_ _|refine blk_drew ?_|refine blk_alloc ?_ _));exact BK159.out⟩,⟨by (with_reducible repeat (first|refine blk_drewN ?_ _|refine blk_drew ?_|refine blk_alloc ?_ _));exact BK163.out⟩,⟨by repeat (first|(with_reducible first|exact HI0.out|apply IsS116.alloc|apply IsS116.drewN|apply IsS116.drew|apply IsS116.set_1|apply IsS116.set_2|refine IsS116.far ?_ NB0_159.out _|refine IsS116.far ?_ NB0_163.out _|refine IsS116.far ?_ NB0_164.out _)|exact HI0.out)⟩,⟨by repeat (first|(with_reducible first|exact HK.out|apply KeepBut.set_|apply keep_drewN|apply keep_drew|apply keep_alloc|refine keep_far ?_ GW159.out _|refine keep_far ?_ GW163.out _|refine keep_far ?_ GW164.out _)|exact HK.out)⟩,⟨by repeat (first|(with_reducible first|exact HB.out|apply below_alloc|apply pw_below_drewN|apply below_drew1|refine below_set ?_ (IsS116.ge HI0.out)|refine below_set ?_ GE159.out|refine below_set ?_ GE163.out|refine below_set ?_ GE164.out)|exact HB.out)⟩⟩
   rw [if_neg c9] at H
   have c9b0:decide (x4_1≤(wrap64 (1+t160)))=false:=decide_eq_false c9
   clear c9
   replace H:=Option.bind_eq_some_iff.mp H
   obtain ⟨⟨t177,t178,t179⟩,A670,H⟩:=H
   replace H:(spec_l5Cur_layout.l1 k1 t177 s0_0 t178 t179 (wrap64 (1+t160)) x164001_1)=some (r1,r2,r3,r4):=H
   have A67:=Aside0.mk A670
   clear A670
   have H':=Aside0.mk H
   clear H
   have hnb68:=NB163_159.out
   have hnc68:=NB159_163.out
   have hnb69:=NB163_0.out
   have hnc69:=NB0_163.out
   have hcz70_0:wr.cell? ⟨gb163,0,none⟩=some (.int .i64 (wrap64 (1+t160))):=(blk_cell BK163.out 0).trans rfl
   have hcz70_1:wr.cell? ⟨gb163,1,none⟩=some (u164001):=(blk_cell BK163.out 1).trans rfl
   have hfz70_0:=blk_frozen BK163.out 0
   have hfz70_1:=blk_frozen BK163.out 1
   go_wp2_with (first|((with_reducible refine gate_callee (f:=108) rfl ?_);refine goesL_ (some 38) rfl rfl Try.func108 (by kernel_rfl) rfl #[.pointer (some ⟨g,0,none⟩),.int .i64 3] rfl (by (try simp only [List.map_toArray,List.map_cons,List.map_nil]);first|done|rfl|(simp only [List.length_drop,List.length_take];rfl)) ?_;(with_reducible refine (spec_l5Cur_pick.calls g s0_0 x1001_1 x1002_1 3 t177 t178 t179 w0 _ ?side1 ?side2 A67.out).mono ?_);(case side1=>repeat (first|(with_reducible first|exact HI0.out|apply IsS116.alloc|apply IsS116.drewN|apply IsS116.drew|apply IsS116.set_1|apply IsS116.set_2|refine IsS116.far ?_ NB0_159.out _|refine IsS116.far ?_ NB0_163.out _)|exact HI0.out));(case side2=>repeat (first|(with_reducible first|exact HB.out|apply below_alloc|apply pw_below_drewN|apply below_drew1|refine below_set ?_ (IsS116.ge HI0.out)|refine below_set ?_ GE159.out|refine below_set ?_ GE163.out)|exact HB.out));rintro e w71 ⟨rfl,hi,hb,hk⟩;refine ⟨_,rfl,?_⟩;have n0_:=Aside0.mk (Kd.R_mono (Kd.R_keep (IsS116.apart (show IsS116 w0 _ g s0_0 x1001_1 x1002_1 from by repeat (first|(with_reducible first|exact HI0.out|apply IsS116.alloc|apply IsS116.drewN|apply IsS116.drew|apply IsS116.set_1|apply IsS116.set_2|refine IsS116.far ?_ NB0_159.out _|refine IsS116.far ?_ NB0_163.out _)|exact HI0.out)) (by (with_reducible repeat (first|apply Kd.R_alloc|apply Kd.R_drewN|apply Kd.R_drew));exact HO_164001.out) (by decide)) hk (fun _ h=>h.2)) (fun _ h=>h.1));have n1_:=Aside0.mk (KeepBut.blk hk (g':=gb159) (o:=.cells #[.int .i64 0,.slice none 0 0] 30 (0,0)) (by (with_reducible repeat (first|refine blk_drewN ?_ _|refine blk_drew ?_|refine blk_alloc ?_ _));exact BK159.out) NB159_0.out (by simp));have n2_:=Aside0.mk (KeepBut.blk hk (g':=gb163) (o:=.cells #[.int .i64 (wrap64 (1+t160)),u164001] 30 (0,0)) (by (with_reducible repeat (first|refine blk_drewN ?_ _|refine blk_drew ?_|refine blk_alloc ?_ _));exact BK163.out) NB163_0.out (by simp));have n3_:=Aside0.mk (KeepBut.trans (by repeat (first|(with_reducible first|exact HK.out|apply KeepBut.set_|apply keep_drewN|apply keep_drew|apply keep_alloc|refine keep_far ?_ GW159.out _|refine keep_far ?_ GW163.out _)|exact HK.out)) hk (.inl rfl));have n4_:=Aside0.mk (hb);have n5_:=Aside0.mk (hi);clear HO_164001;clear BK159;clear BK163;clear HK;clear HB;clear HI0;have HO_164001:=n0_;have BK159:=n1_;have BK163:=n2_;have HK:=n3_;have HB:=n4_;have HI0:=n5_;clear n0_ n1_ n2_ n3_ n4_ n5_;(try clear hb);(try clear hb2);(try clear hk);(try clear hi)))
   go_loopg [6] k1 (fun kq v6 w'=>∃ (x6_2:Int) (x1001_2:Int) (x1002_2:Int) (x164001_2:List (S88)) (u164001:Value),v6=.int .i64 x6_2∧Aside0 (spec_l5Cur_layout.l1 kq x6_2 s0_0 x1001_2 x1002_2 (wrap64 (1+t160)) x164001_2=some (r1,r2,r3,r4))∧Aside0 (kq≤k1)∧Aside0 (Kd.R k88 88 w' w.heap.size (fun _=>True) u164001 x164001_2)∧Aside0 (w'.heap[gb159]?=some (.cells #[.int .i64 0,(.slice none 0 0)] 30 (0,0)))∧Aside0 (w'.heap[gb163]?=some (.cells #[.int .i64 (wrap64 (1+t160)),u164001] 30 (0,0)))∧Aside0 (IsS116 w0 w' g s0_0 x1001_2 x1002_2)∧Aside0 (KeepBut w w' g none)∧Aside0 (Below w0.heap.size w0 w'))
   case atStart=>exact ⟨(t177),(t178),(t179),(x164001_1),(u164001),(by first|rfl|(simp;done)|(simp [*];done)),H',⟨Nat.le_refl _⟩,⟨by (with_reducible repeat (first|apply Kd.R_alloc|apply Kd.R_drewN|apply Kd.R_drew));exact HO_164001.out⟩,⟨by (with_reducible repeat (first|refine blk_drewN ?_ _|refine blk_drew ?_|refine blk_alloc ?_ _));exact BK159.out⟩,⟨by (with_reducible repeat (first|refine blk_drewN ?_ _|refine blk_drew ?_|refine blk_alloc ?_ _));exact BK163.out⟩,⟨by repeat (first|(with_reducible first|exact HI0.out|apply IsS116.alloc|apply IsS116.drewN|apply IsS116.drew|apply IsS116.set_1|apply IsS116.set_2|refine IsS116.far ?_ NB0_159.out _|refine IsS116.far ?_ NB0_163.out _)|exact HI0.out)⟩,⟨by repeat (first|(with_reducible first|exact HK.out|apply KeepBut.set_|apply keep_drewN|apply keep_drew|apply keep_alloc|refine keep_far ?_ GW159.out _|refine keep_far ?_ GW163.out _)|exact HK.out)⟩,⟨by repeat (first|(with_reducible first|exact HB.out|apply below_alloc|apply pw_below_drewN|apply below_drew1|refine below_set ?_ (IsS116.ge HI0.out)|refine below_set ?_ GE159.out|refine below_set ?_ GE163.out)|exact HB.out)⟩⟩
   case round =>
    clear H'
    try clear c1
    try clear c2
    try clear p2
    try clear c3
    try clear c4
    try clear c5
    try clear c6
    try clear p6
    try clear c7
    try clear c9
    try clear c9b0
    try clear c10
    try clear c10b0
    try clear c10b1
    try clear c12
    try clear c12b0
    try clear c13
    try clear c14
    try clear c15
    try clear c18
    try clear c19
    try clear c20
    try clear c29
    try clear c30
    try clear c33
    try clear c34
    try clear c35
    try clear c40
    try clear c40b0
    try clear c41
    try clear c42
    try clear c43
    try clear c46
    try clear c47
    try clear c48
    try clear c57
    try clear c58
    try clear c61
    try clear c62
    try clear c63
    try clear p64
    try clear c68
    try clear c69
    try clear hcz16_0
    try clear hcz16_1
    try clear hcz21_0
    try clear hcz21_1
    try clear hcz22_0
    try clear hcz22_1
    try clear hcz24_0
    try clear hcz24_1
    try clear hcz25_0
    try clear hcz25_1
    try clear hcz28_0
    try clear hcz28_1
    try clear hcz31_0
    try clear hcz31_1
    try clear hcz36_0
    try clear hcz36_1
    try clear hcz37_0
    try clear hcz37_1
    try clear hcz44_0
    try clear hcz44_1
    try clear hcz49_0
    try clear hcz49_1
    try clear hcz50_0
    try clear hcz50_1
    try clear hcz52_0
    try clear hcz52_1
    try clear hcz53_0
    try clear hcz53_1
    try clear hcz56_0
    try clear hcz56_1
    try clear hcz59_0
    try clear hcz59_1
    try clear hcz64_0
    try clear hcz64_1
    try clear hcz65_0
    try clear hcz65_1
    try clear hcz70_0
    try clear hcz70_1
    try clear hcz8_0
    try clear hcz8_1
    try clear hfz16_0
    try clear hfz16_1
    try clear hfz21_0
    try clear hfz21_1
    try clear hfz22_0
    try clear hfz22_1
    try clear hfz24_0
    try clear hfz24_1
    try clear hfz25_0
    try clear hfz25_1
    try clear hfz28_0
    try clear hfz28_1
    try clear hfz31_0
    try clear hfz31_1
    try clear hfz36_0
    try clear hfz36_1
    try clear hfz37_0
    try clear hfz37_1
    try clear hfz44_0
    try clear hfz44_1
    try clear hfz49_0
    try clear hfz49_1
    try clear hfz50_0
    try clear hfz50_1
    try clear hfz52_0
    try clear hfz52_1
    try clear hfz53_0
    try clear hfz53_1
    try clear hfz56_0
    try clear hfz56_1
    try clear hfz59_0
    try clear hfz59_1
    try clear hfz64_0
    try clear hfz64_1
    try clear hfz65_0
    try clear hfz65_1
    try clear hfz70_0
    try clear hfz70_1
    try clear hfz8_0
    try clear hfz8_1
    try clear p2
    try clear p6
    obtain ⟨x6_2,x1001_2,x1002_2,x164001_2,u164001,rfl,HA,HK2,HO_164001,BK159,BK163,HI0,HK,HB⟩:=hrel
    cases gk with
    | zero=>exact absurd HA.out (by simp [spec_l5Cur_layout.l1])
    | succ k2 =>
     have H:=HA.out
     clear HA
     simp only [spec_l5Cur_layout.l1] at H
     by_cases c72:x6_2 > 0
     ·rw [if_pos c72] at H
      have c72b0:decide (0<x6_2)=true:=decide_eq_true c72
      clear c72
      replace H:=Option.bind_eq_some_iff.mp H
      obtain ⟨⟨t180,t181,t182⟩,A730,H⟩:=H
      replace H:((spec_l5Cur_pick.f s0_0 t181 t182 (wrap64 ((wrap64 (1+t160))+1))).bind fun bt183=>(if (wrap64 (t180 - 1))=(wrap64 (bt183.1 - 1)) then (spec_l5Cur_layout.l1 k2 (wrap64 (x6_2 - 1)) s0_0 bt183.2.1 bt183.2.2 (wrap64 (1+t160)) x164001_2) else (if x164001_2.length<8796093022208 then (spec_l5Cur_layout.l1 k2 (wrap64 (x6_2 - 1)) s0_0 bt183.2.1 bt183.2.2 (wrap64 (1+t160)) (x164001_2 ++ [(⟨wrap64 (t180 - 1),wrap64 (bt183.1 - 1)⟩:S88)])) else (none))))=some (r1,r2,r3,r4):=H
      have A73:=Aside0.mk A730
      clear A730
      replace H:=Option.bind_eq_some_iff.mp H
      obtain ⟨⟨t183,t184,t185⟩,A740,H⟩:=H
      replace H:(if (wrap64 (t180 - 1))=(wrap64 (t183 - 1)) then (spec_l5Cur_layout.l1 k2 (wrap64 (x6_2 - 1)) s0_0 t184 t185 (wrap64 (1+t160)) x164001_2) else (if x164001_2.length<8796093022208 then (spec_l5Cur_layout.l1 k2 (wrap64 (x6_2 - 1)) s0_0 t184 t185 (wrap64 (1+t160)) (x164001_2 ++ [(⟨wrap64 (t180 - 1),wrap64 (t183 - 1)⟩:S88)])) else (none)))=some (r1,r2,r3,r4):=H
      have A74:=Aside0.mk A740
      clear A740
      by_cases c75:(wrap64 (t180 - 1))=(wrap64 (t183 - 1))
      ·rw [if_pos c75] at H
       have c75b0:((wrap64 (t180 - 1))==(wrap64 (t183 - 1)))=true:=beq_iff_eq.mpr c75
       have c75b1:((wrap64 (t180 - 1)) != (wrap64 (t183 - 1)))=false:=bne_eq_false_iff_eq.mpr c75
       clear c75
       have H':=Aside0.mk H
       clear H
       have hnb76:=NB163_159.out
       have hnc76:=NB159_163.out
       have hnb77:=NB163_0.out
       have hnc77:=NB0_163.out
       have hcz78_0:wr.cell? ⟨gb163,0,none⟩=some (.int .i64 (wrap64 (1+t160))):=(blk_cell BK163.out 0).trans rfl
       have hcz78_1:wr.cell? ⟨gb163,1,none⟩=some (u164001):=(blk_cell BK163.out 1).trans rfl
       have hfz78_0:=blk_frozen BK163.out 0
       have hfz78_1:=blk_frozen BK163.out 1
       go_wp2_with (first|((with_reducible refine gate_callee (f:=108) rfl ?_);refine goesL_ (some 47) rfl rfl Try.func108 (by kernel_rfl) rfl #[.pointer (some ⟨g,0,none⟩),.int .i64 (wrap64 ((wrap64 (1+t160))+1))] rfl (by (try simp only [List.map_toArray,List.map_cons,List.map_nil]);first|done|rfl|(simp only [List.length_drop,List.length_take];rfl)) ?_;(with_reducible refine (spec_l5Cur_pick.calls g s0_0 x1001_2 x1002_2 (wrap64 ((wrap64 (1+t160))+1)) t180 t181 t182 w0 _ ?side1 ?side2 A73.out).mono ?_);(case side1=>repeat (first|(with_reducible first|exact HI0.out|apply IsS116.alloc|apply IsS116.drewN|apply IsS116.drew|apply IsS116.set_1|apply IsS116.set_2|refine IsS116.far ?_ NB0_159.out _|refine IsS116.far ?_ NB0_163.out _)|exact HI0.out));(case side2=>repeat (first|(with_reducible first|exact HB.out|apply below_alloc|apply pw_below_drewN|apply below_drew1|refine below_set ?_ (IsS116.ge HI0.out)|refine below_set ?_ GE159.out|refine below_set ?_ GE163.out)|exact HB.out));rintro e w79 ⟨rfl,hi,hb,hk⟩;refine ⟨_,rfl,?_⟩;have n0_:=Aside0.mk (Kd.R_mono (Kd.R_keep (IsS116.apart (show IsS116 w0 _ g s0_0 x1001_2 x1002_2 from by repeat (first|(with_reducible first|exact HI0.out|apply IsS116.alloc|apply IsS116.drewN|apply IsS116.drew|apply IsS116.set_1|apply IsS116.set_2|refine IsS116.far ?_ NB0_159.out _|refine IsS116.far ?_ NB0_163.out _)|exact HI0.out)) (by (with_reducible repeat (first|apply Kd.R_alloc|apply Kd.R_drewN|apply Kd.R_drew));exact HO_164001.out) (by decide)) hk (fun _ h=>h.2)) (fun _ h=>h.1));have n1_:=Aside0.mk (KeepBut.blk hk (g':=gb159) (o:=.cells #[.int .i64 0,.slice none 0 0] 30 (0,0)) (by (with_reducible repeat (first|refine blk_drewN ?_ _|refine blk_drew ?_|refine blk_alloc ?_ _));exact BK159.out) NB159_0.out (by simp));have n2_:=Aside0.mk (KeepBut.blk hk (g':=gb163) (o:=.cells #[.int .i64 (wrap64 (1+t160)),u164001] 30 (0,0)) (by (with_reducible repeat (first|refine blk_drewN ?_ _|refine blk_drew ?_|refine blk_alloc ?_ _));exact BK163.out) NB163_0.out (by simp));have n3_:=Aside0.mk (KeepBut.trans (by repeat (first|(with_reducible first|exact HK.out|apply KeepBut.set_|apply keep_drewN|apply keep_drew|apply keep_alloc|refine keep_far ?_ GW159.out _|refine keep_far ?_ GW163.out _)|exact HK.out)) hk (.inl rfl));have n4_:=Aside0.mk (hb);have n5_:=Aside0.mk (hi);clear HO_164001;clear BK159;clear BK163;clear HK;clear HB;clear HI0;have HO_164001:=n0_;have BK159:=n1_;have BK163:=n2_;have HK:=n3_;have HB:=n4_;have HI0:=n5_;clear n0_ n1_ n2_ n3_ n4_ n5_;(try clear hb);(try clear hb2);(try clear hk);(try clear hi);have hcz80_0:w79.cell? ⟨gb163,0,none⟩=some (.int .i64 (wrap64 (1+t160))):=(blk_cell BK163.out 0).trans rfl;have hcz80_1:w79.cell? ⟨gb163,1,none⟩=some (u164001):=(blk_cell BK163.out 1).trans rfl;have hfz80_0:=blk_frozen BK163.out 0;have hfz80_1:=blk_frozen BK163.out 1)|((with_reducible refine gate_callee (f:=108) rfl ?_);refine goesL_ (some 53) rfl rfl Try.func108 (by kernel_rfl) rfl #[.pointer (some ⟨g,0,none⟩),.int .i64 (wrap64 ((wrap64 (1+t160))+1))] rfl (by (try simp only [List.map_toArray,List.map_cons,List.map_nil]);first|done|rfl|(simp only [List.length_drop,List.length_take];rfl)) ?_;(with_reducible refine (spec_l5Cur_pick.calls g s0_0 t181 t182 (wrap64 ((wrap64 (1+t160))+1)) t183 t184 t185 w0 _ ?side1 ?side2 A74.out).mono ?_);(case side1=>repeat (first|(with_reducible first|exact HI0.out|apply IsS116.alloc|apply IsS116.drewN|apply IsS116.drew|apply IsS116.set_1|apply IsS116.set_2|refine IsS116.far ?_ NB0_159.out _|refine IsS116.far ?_ NB0_163.out _)|exact HI0.out));(case side2=>repeat (first|(with_reducible first|exact HB.out|apply below_alloc|apply pw_below_drewN|apply below_drew1|refine below_set ?_ (IsS116.ge HI0.out)|refine below_set ?_ GE159.out|refine below_set ?_ GE163.out)|exact HB.out));rintro e w81 ⟨rfl,hi,hb,hk⟩;refine ⟨_,rfl,?_⟩;have n0_:=Aside0.mk (Kd.R_mono (Kd.R_keep (IsS116.apart (show IsS116 w0 _ g s0_0 t181 t182 from by repeat (first|(with_reducible first|exact HI0.out|apply IsS116.alloc|apply IsS116.drewN|apply IsS116.drew|apply IsS116.set_1|apply IsS116.set_2|refine IsS116.far ?_ NB0_159.out _|refine IsS116.far ?_ NB0_163.out _)|exact HI0.out)) (by (with_reducible repeat (first|apply Kd.R_alloc|apply Kd.R_drewN|apply Kd.R_drew));exact HO_164001.out) (by decide)) hk (fun _ h=>h.2)) (fun _ h=>h.1));have n1_:=Aside0.mk (KeepBut.blk hk (g':=gb159) (o:=.cells #[.int .i64 0,.slice none 0 0] 30 (0,0)) (by (with_reducible repeat (first|refine blk_drewN ?_ _|refine blk_drew ?_|refine blk_alloc ?_ _));exact BK159.out) NB159_0.out (by simp));have n2_:=Aside0.mk (KeepBut.blk hk (g':=gb163) (o:=.cells #[.int .i64 (wrap64 (1+t160)),u164001] 30 (0,0)) (by (with_reducible repeat (first|refine blk_drewN ?_ _|refine blk_drew ?_|refine blk_alloc ?_ _));exact BK163.out) NB163_0.out (by simp));have n3_:=Aside0.mk (KeepBut.trans (by repeat (first|(with_reducible first|exact HK.out|apply KeepBut.set_|apply keep_drewN|apply keep_drew|apply keep_alloc|refine keep_far ?_ GW159.out _|refine keep_far ?_ GW163.out _)|exact HK.out)) hk (.inl rfl));have n4_:=Aside0.mk (hb);have n5_:=Aside0.mk (hi);clear HO_164001;clear BK159;clear BK163;clear HK;clear HB;clear HI0;have HO_164001:=n0_;have BK159:=n1_;have BK163:=n2_;have HK:=n3_;have HB:=n4_;have HI0:=n5_;clear n0_ n1_ n2_ n3_ n4_ n5_;(try clear hb);(try clear hb2);(try clear hk);(try clear hi)))
       go_roundg k2
       case measure=>have:=HK1.out;have:=HK2.out;omega
       case rel=>exact ⟨(wrap64 (x6_2 - 1)),(t184),(t185),(x164001_2),(u164001),(by first|rfl|(simp;done)|(simp [*];done)),H',⟨by have:=HK1.out;have:=HK2.out;omega⟩,⟨by (with_reducible repeat (first|apply Kd.R_alloc|apply Kd.R_drewN|apply Kd.R_drew));exact HO_164001.out⟩,⟨by (with_reducible repeat (first|refine blk_drewN ?_ _|refine blk_drew ?_|refine blk_alloc ?_ _));exact BK159.out⟩,⟨by (with_reducible repeat (first|refine blk_drewN ?_ _|refine blk_drew ?_|refine blk_alloc ?_ _));exact BK163.out⟩,⟨by repeat (first|(with_reducible first|exact HI0.out|apply IsS116.alloc|apply IsS116.drewN|apply IsS116.drew|apply IsS116.set_1|apply IsS116.set_2|refine IsS116.far ?_ NB0_159.out _|refine IsS116.far ?_ NB0_163.out _)|exact HI0.out)⟩,⟨by repeat (first|(with_reducible first|exact HK.out|apply KeepBut.set_|apply keep_drewN|apply keep_drew|apply keep_alloc|refine keep_far ?_ GW159.out _|refine keep_far ?_ GW163.out _)|exact HK.out)⟩,⟨by repeat (first|(with_reducible first|exact HB.out|apply below_alloc|apply pw_below_drewN|apply below_drew1|refine below_set ?_ (IsS116.ge HI0.out)|refine below_set ?_ GE159.out|refine below_set ?_ GE163.out)|exact HB.out)⟩⟩
      rw [if_neg c75] at H
      have c75b0:((wrap64 (t180 - 1))==(wrap64 (t183 - 1)))=false:=beq_eq_false_iff_ne.mpr c75
      have c75b1:((wrap64 (t180 - 1)) != (wrap64 (t183 - 1)))=true:=bne_iff_ne.mpr c75
      by_cases c82:x164001_2.length<8796093022208
      ·rw [if_pos c82] at H
       have LMc82:=Aside0.mk c82
       clear c82
       obtain ⟨y186,hy186⟩:∃ y_:List (S88),y_=(x164001_2 ++ [(⟨wrap64 (t180 - 1),wrap64 (t183 - 1)⟩:S88)]):=⟨_,rfl⟩
       replace H:(spec_l5Cur_layout.l1 k2 (wrap64 (x6_2 - 1)) s0_0 t184 t185 (wrap64 (1+t160)) y186)=some (r1,r2,r3,r4):=by first|(rw [hy186];with_reducible exact H)|(have H2_:=(Option.bind_some _ _).symm.trans H;rw [hy186];with_reducible exact H2_)|(have H2_:=(Option.bind_some _ _).symm.trans H;with_reducible exact H2_)|with_reducible exact H|(rw [hy186];exact H)|exact H
       have Ny186:=Aside0.mk hy186
       clear hy186
       have H':=Aside0.mk H
       clear H
       have hnb83:=NB163_159.out
       have hnc83:=NB159_163.out
       have hnb84:=NB163_0.out
       have hnc84:=NB0_163.out
       have hcz85_0:wr.cell? ⟨gb163,0,none⟩=some (.int .i64 (wrap64 (1+t160))):=(blk_cell BK163.out 0).trans rfl
       have hcz85_1:wr.cell? ⟨gb163,1,none⟩=some (u164001):=(blk_cell BK163.out 1).trans rfl
       have hfz85_0:=blk_frozen BK163.out 0
       have hfz85_1:=blk_frozen BK163.out 1
       go_wp2_with (first|((with_reducible refine gate_callee (f:=108) rfl ?_);refine goesL_ (some 47) rfl rfl Try.func108 (by kernel_rfl) rfl #[.pointer (some ⟨g,0,none⟩),.int .i64 (wrap64 ((wrap64 (1+t160))+1))] rfl (by (try simp only [List.map_toArray,List.map_cons,List.map_nil]);first|done|rfl|(simp only [List.length_drop,List.length_take];rfl)) ?_;(with_reducible refine (spec_l5Cur_pick.calls g s0_0 x1001_2 x1002_2 (wrap64 ((wrap64 (1+t160))+1)) t180 t181 t182 w0 _ ?side1 ?side2 A73.out).mono ?_);(case side1=>repeat (first|(with_reducible first|exact HI0.out|apply IsS116.alloc|apply IsS116.drewN|apply IsS116.drew|apply IsS116.set_1|apply IsS116.set_2|refine IsS116.far ?_ NB0_159.out _|refine IsS116.far ?_ NB0_163.out _)|exact HI0.out));(case side2=>repeat (first|(with_reducible first|exact HB.out|apply below_alloc|apply pw_below_drewN|apply below_drew1|refine below_set ?_ (IsS116.ge HI0.out)|refine below_set ?_ GE159.out|refine below_set ?_ GE163.out)|exact HB.out));rintro e w86 ⟨rfl,hi,hb,hk⟩;refine ⟨_,rfl,?_⟩;have n0_:=Aside0.mk (Kd.R_mono (Kd.R_keep (IsS116.apart (show IsS116 w0 _ g s0_0 x1001_2 x1002_2 from by repeat (first|(with_reducible first|exact HI0.out|apply IsS116.alloc|apply IsS116.drewN|apply IsS116.drew|apply IsS116.set_1|apply IsS116.set_2|refine IsS116.far ?_ NB0_159.out _|refine IsS116.far ?_ NB0_163.out _)|exact HI0.out)) (by (with_reducible repeat (first|apply Kd.R_alloc|apply Kd.R_drewN|apply Kd.R_drew));exact HO_164001.out) (by decide)) hk (fun _ h=>h.2)) (fun _ h=>h.1));have n1_:=Aside0.mk (KeepBut.blk hk (g':=gb159) (o:=.cells #[.int .i64 0,.slice none 0 0] 30 (0,0)) (by (with_reducible repeat (first|refine blk_drewN ?_ _|refine blk_drew ?_|refine blk_alloc ?_ _));exact BK159.out) NB159_0.out (by simp));have n2_:=Aside0.mk (KeepBut.blk hk (g':=gb163) (o:=.cells #[.int .i64 (wrap64 (1+t160)),u164001] 30 (0,0)) (by (with_reducible repeat (first|refine blk_drewN ?_ _|refine blk_drew ?_|refine blk_alloc ?_ _));exact BK163.out) NB163_0.out (by simp));have n3_:=Aside0.mk (KeepBut.trans (by repeat (first|(with_reducible first|exact HK.out|apply KeepBut.set_|apply keep_drewN|apply keep_drew|apply keep_alloc|refine keep_far ?_ GW159.out _|refine keep_far ?_ GW163.out _)|exact HK.out)) hk (.inl rfl));have n4_:=Aside0.mk (hb);have n5_:=Aside0.mk (hi);clear HO_164001;clear BK159;clear BK163;clear HK;clear HB;clear HI0;have HO_164001:=n0_;have BK159:=n1_;have BK163:=n2_;have HK:=n3_;have HB:=n4_;have HI0:=n5_;clear n0_ n1_ n2_ n3_ n4_ n5_;(try clear hb);(try clear hb2);(try clear hk);(try clear hi);have hcz87_0:w86.cell? ⟨gb163,0,none⟩=some (.int .i64 (wrap64 (1+t160))):=(blk_cell BK163.out 0).trans rfl;have hcz87_1:w86.cell? ⟨gb163,1,none⟩=some (u164001):=(blk_cell BK163.out 1).trans rfl;have hfz87_0:=blk_frozen BK163.out 0;have hfz87_1:=blk_frozen BK163.out 1)|((with_reducible refine gate_callee (f:=108) rfl ?_);refine goesL_ (some 53) rfl rfl Try.func108 (by kernel_rfl) rfl #[.pointer (some ⟨g,0,none⟩),.int .i64 (wrap64 ((wrap64 (1+t160))+1))] rfl (by (try simp only [List.map_toArray,List.map_cons,List.map_nil]);first|done|rfl|(simp only [List.length_drop,List.length_take];rfl)) ?_;(with_reducible refine (spec_l5Cur_pick.calls g s0_0 t181 t182 (wrap64 ((wrap64 (1+t160))+1)) t183 t184 t185 w0 _ ?side1 ?side2 A74.out).mono ?_);(case side1=>repeat (first|(with_reducible first|exact HI0.out|apply IsS116.alloc|apply IsS116.drewN|apply IsS116.drew|apply IsS116.set_1|apply IsS116.set_2|refine IsS116.far ?_ NB0_159.out _|refine IsS116.far ?_ NB0_163.out _)|exact HI0.out));(case side2=>repeat (first|(with_reducible first|exact HB.out|apply below_alloc|apply pw_below_drewN|apply below_drew1|refine below_set ?_ (IsS116.ge HI0.out)|refine below_set ?_ GE159.out|refine below_set ?_ GE163.out)|exact HB.out));rintro e w88 ⟨rfl,hi,hb,hk⟩;refine ⟨_,rfl,?_⟩;have n0_:=Aside0.mk (Kd.R_mono (Kd.R_keep (IsS116.apart (show IsS116 w0 _ g s0_0 t181 t182 from by repeat (first|(with_reducible first|exact HI0.out|apply IsS116.alloc|apply IsS116.drewN|apply IsS116.drew|apply IsS116.set_1|apply IsS116.set_2|refine IsS116.far ?_ NB0_159.out _|refine IsS116.far ?_ NB0_163.out _)|exact HI0.out)) (by (with_reducible repeat (first|apply Kd.R_alloc|apply Kd.R_drewN|apply Kd.R_drew));exact HO_164001.out) (by decide)) hk (fun _ h=>h.2)) (fun _ h=>h.1));have n1_:=Aside0.mk (KeepBut.blk hk (g':=gb159) (o:=.cells #[.int .i64 0,.slice none 0 0] 30 (0,0)) (by (with_reducible repeat (first|refine blk_drewN ?_ _|refine blk_drew ?_|refine blk_alloc ?_ _));exact BK159.out) NB159_0.out (by simp));have n2_:=Aside0.mk (KeepBut.blk hk (g':=gb163) (o:=.cells #[.int .i64 (wrap64 (1+t160)),u164001] 30 (0,0)) (by (with_reducible repeat (first|refine blk_drewN ?_ _|refine blk_drew ?_|refine blk_alloc ?_ _));exact BK163.out) NB163_0.out (by simp));have n3_:=Aside0.mk (KeepBut.trans (by repeat (first|(with_reducible first|exact HK.out|apply KeepBut.set_|apply keep_drewN|apply keep_drew|apply keep_alloc|refine keep_far ?_ GW159.out _|refine keep_far ?_ GW163.out _)|exact HK.out)) hk (.inl rfl));have n4_:=Aside0.mk (hb);have n5_:=Aside0.mk (hi);clear HO_164001;clear BK159;clear BK163;clear HK;clear HB;clear HI0;have HO_164001:=n0_;have BK159:=n1_;have BK163:=n2_;have HK:=n3_;have HB:=n4_;have HI0:=n5_;clear n0_ n1_ n2_ n3_ n4_ n5_;(try clear hb);(try clear hb2);(try clear hk);(try clear hi);have hcz89_0:w88.cell? ⟨gb163,0,none⟩=some (.int .i64 (wrap64 (1+t160))):=(blk_cell BK163.out 0).trans rfl;have hcz89_1:w88.cell? ⟨gb163,1,none⟩=some (u164001):=(blk_cell BK163.out 1).trans rfl;have hfz89_0:=blk_frozen BK163.out 0;have hfz89_1:=blk_frozen BK163.out 1)|((with_reducible refine gate_builtin (b:=.append) (xs:=#[.tmp 59,.tmp 63]) rfl ?_);at_builtin;refine Kd.R_append k88 w.heap.size rfl (.tmp 59) (.tmp 63) 28 88 (.agg #[(.int .i64 0),(.int .i64 0)]) 16 rfl Try.underlying28 info88 rfl (by decide) (by omega) u164001 x164001_2 (⟨wrap64 (t180 - 1),wrap64 (t183 - 1)⟩:S88) [.int .i64 (wrap64 (t180 - 1)),.int .i64 (wrap64 (t183 - 1))] (fun _=>True) (fun _=>False) rfl rfl ?aP (fun _ hk=>hk.elim) ?aF ?aO (Below.refl _ _) ?aS ?aL ?_;(case aP=>exact k88_mkM _ _ _ (⟨wrap64 (t180 - 1),wrap64 (t183 - 1)⟩:S88));(case aF=>exact (fun _ _=>trivial));(case aO=>exact (by (with_reducible repeat (first|apply Kd.R_alloc|apply Kd.R_drewN|apply Kd.R_drew));exact HO_164001.out));(case aS=>exact (keep_size (w:=w) (g:=g) (row:=none) (by repeat (first|(with_reducible first|exact HK.out|apply KeepBut.set_|apply keep_drewN|apply keep_drew|apply keep_alloc|refine keep_far ?_ GW159.out _|refine keep_far ?_ GW163.out _)|exact HK.out))));(case aL=>have:=LMc82.out;omega);intro v187 w90 ho hb hg hat;rw [← Ny186.out] at ho;have n0_:=Aside0.mk (blk_grown (g:=gb159) (o:=.cells #[.int .i64 0,.slice none 0 0] 30 (0,0)) (by (with_reducible repeat (first|refine blk_drewN ?_ _|refine blk_drew ?_|refine blk_alloc ?_ _));exact BK159.out) hg (Kd.R_ne HO_164001.out BK159.out (by decide)));have n1_:=Aside0.mk (blk_grown (g:=gb163) (o:=.cells #[.int .i64 (wrap64 (1+t160)),u164001] 30 (0,0)) (by (with_reducible repeat (first|refine blk_drewN ?_ _|refine blk_drew ?_|refine blk_alloc ?_ _));exact BK163.out) hg (Kd.R_ne HO_164001.out BK163.out (by decide)));have n2_:=Aside0.mk (IsS116.grown (by repeat (first|(with_reducible first|exact HI0.out|apply IsS116.alloc|apply IsS116.drewN|apply IsS116.drew|apply IsS116.set_1|apply IsS116.set_2|refine IsS116.far ?_ NB0_159.out _|refine IsS116.far ?_ NB0_163.out _)|exact HI0.out)) hg (IsS116.own_ne HI0.out HO_164001.out (by decide)));have n3_:=Aside0.mk (below_weaken (by repeat (first|(with_reducible first|exact HB.out|apply below_alloc|apply pw_below_drewN|apply below_drew1|refine below_set ?_ (IsS116.ge HI0.out)|refine below_set ?_ GE159.out|refine below_set ?_ GE163.out)|exact HB.out)) HL.out hb);have n4_:=Aside0.mk (KeepBut.trans (by repeat (first|(with_reducible first|exact HK.out|apply KeepBut.set_|apply keep_drewN|apply keep_drew|apply keep_alloc|refine keep_far ?_ GW159.out _|refine keep_far ?_ GW163.out _)|exact HK.out)) (KeepBut.of_grown hg g) (Kd.R_base2 HO_164001.out));have n5_:=Aside0.mk (ho);clear BK159;clear BK163;clear HI0;clear HB;clear HK;clear HO_164001;have BK159:=n0_;have BK163:=n1_;have HI0:=n2_;have HB:=n3_;have HK:=n4_;have HO188:=n5_;clear n0_ n1_ n2_ n3_ n4_ n5_;clear ho hb hg hat;obtain ⟨Ao91,co91,eo91⟩:=Kd.R_slice HO188.out;subst eo91;have hcz92_0:w90.cell? ⟨gb163,0,none⟩=some (.int .i64 (wrap64 (1+t160))):=(blk_cell BK163.out 0).trans rfl;have hcz92_1:w90.cell? ⟨gb163,1,none⟩=some (u164001):=(blk_cell BK163.out 1).trans rfl;have hfz92_0:=blk_frozen BK163.out 0;have hfz92_1:=blk_frozen BK163.out 1))
       go_roundg k2
       case measure=>have:=HK1.out;have:=HK2.out;omega
       case rel=>exact ⟨(wrap64 (x6_2 - 1)),(t184),(t185),(y186),(.slice Ao91 y186.length co91),(by first|rfl|(simp;done)|(simp [*];done)),H',⟨by have:=HK1.out;have:=HK2.out;omega⟩,⟨by (with_reducible repeat (first|apply Kd.R_alloc|apply Kd.R_drewN|apply Kd.R_drew));exact Kd.R_mono (Kd.R_far (p:=⟨gb163,1,none⟩) (Kd.R_types HO188.out BK163.out (by decide)) (fun _ hk=>hk.2) (.slice Ao91 y186.length co91)) (fun _ hk=>trivial)⟩,⟨by (with_reducible repeat (first|refine blk_drewN ?_ _|refine blk_drew ?_|refine blk_alloc ?_ _));refine blk_far ?_ NB159_163.out _;(with_reducible repeat (first|refine blk_drewN ?_ _|refine blk_drew ?_|refine blk_alloc ?_ _));exact BK159.out⟩,⟨by (with_reducible repeat (first|refine blk_drewN ?_ _|refine blk_drew ?_|refine blk_alloc ?_ _));refine blk_put (cs:=#[.int .i64 (wrap64 (1+t160)),u164001]) ?_ 1 _ rfl;(with_reducible repeat (first|refine blk_drewN ?_ _|refine blk_drew ?_|refine blk_alloc ?_ _));exact BK163.out⟩,⟨by repeat (first|(with_reducible first|exact HI0.out|apply IsS116.alloc|apply IsS116.drewN|apply IsS116.drew|apply IsS116.set_1|apply IsS116.set_2|refine IsS116.far ?_ NB0_159.out _|refine IsS116.far ?_ NB0_163.out _)|exact HI0.out)⟩,⟨by repeat (first|(with_reducible first|exact HK.out|apply KeepBut.set_|apply keep_drewN|apply keep_drew|apply keep_alloc|refine keep_far ?_ GW159.out _|refine keep_far ?_ GW163.out _)|exact HK.out)⟩,⟨by repeat (first|(with_reducible first|exact HB.out|apply below_alloc|apply pw_below_drewN|apply below_drew1|refine below_set ?_ (IsS116.ge HI0.out)|refine below_set ?_ GE159.out|refine below_set ?_ GE163.out)|exact HB.out)⟩⟩
      rw [if_neg c82] at H
      exact absurd H (by simp)
     rw [if_neg c72] at H
     have c72b0:decide (0<x6_2)=false:=decide_eq_false c72
     clear c72
     simp only [Option.some.injEq,Prod.mk.injEq] at H
     obtain ⟨rfl,rfl,rfl,rfl⟩:=H
     have hnb93:=NB163_159.out
     have hnc93:=NB159_163.out
     have hnb94:=NB163_0.out
     have hnc94:=NB0_163.out
     have hcz95_0:wr.cell? ⟨gb163,0,none⟩=some (.int .i64 (wrap64 (1+t160))):=(blk_cell BK163.out 0).trans rfl
     have hcz95_1:wr.cell? ⟨gb163,1,none⟩=some (u164001):=(blk_cell BK163.out 1).trans rfl
     have hfz95_0:=blk_frozen BK163.out 0
     have hfz95_1:=blk_frozen BK163.out 1
     have hnb96:=NB159_0.out
     have hnc96:=NB0_159.out
     have hcz97_0:wr.cell? ⟨gb159,0,none⟩=some (.int .i64 0):=(blk_cell BK159.out 0).trans rfl
     have hcz97_1:wr.cell? ⟨gb159,1,none⟩=some (.slice none 0 0):=(blk_cell BK159.out 1).trans rfl
     have hfz97_0:=blk_frozen BK159.out 0
     have hfz97_1:=blk_frozen BK159.out 1
     obtain ⟨Ao98,co98,eo98⟩:=Kd.R_slice HO_164001.out
     subst eo98
     go_wp2
     refine bodyPost_ret (results_cell_row rfl _ _ gb159 30 #[.int .i64 (wrap64 (1+t160)),.slice Ao98 x164001_2.length co98] (0,0) _ rfl (by (with_reducible repeat (first|refine blk_drewN ?_ _|refine blk_drew ?_|refine blk_alloc ?_ _));refine blk_put (cs:=#[.int .i64 (wrap64 (1+t160)),.slice none 0 0]) ?_ 1 _ rfl;(with_reducible repeat (first|refine blk_drewN ?_ _|refine blk_drew ?_|refine blk_alloc ?_ _));refine blk_put (cs:=#[.int .i64 0,.slice none 0 0]) ?_ 0 _ rfl;(with_reducible repeat (first|refine blk_drewN ?_ _|refine blk_drew ?_|refine blk_alloc ?_ _));exact BK159.out) Try.underlying30 rfl (by kernel_rfl)) rfl ?_
     exact ⟨_,by first|rfl|(simp [errW_none,errW_some] <;> rfl)|(simp [*,errW_none,errW_some] <;> rfl),by (with_reducible repeat (first|apply Kd.R_alloc|apply Kd.R_drewN|apply Kd.R_drew));exact Kd.R_mono (Kd.R_far (p:=⟨gb159,1,none⟩) (Kd.R_far (p:=⟨gb159,0,none⟩) (Kd.R_types HO_164001.out BK159.out (by decide)) (fun _ hk=>hk.2) (.int .i64 (wrap64 (1+t160)))) (fun _ hk=>hk.2) (.slice Ao98 x164001_2.length co98)) (fun _ hk=>trivial),by repeat (first|(with_reducible first|exact HI0.out|apply IsS116.alloc|apply IsS116.drewN|apply IsS116.drew|apply IsS116.set_1|apply IsS116.set_2|refine IsS116.far ?_ NB0_159.out _|refine IsS116.far ?_ NB0_163.out _)|exact HI0.out),by repeat (first|(with_reducible first|exact HB.out|apply below_alloc|apply pw_below_drewN|apply below_drew1|refine below_set ?_ (IsS116.ge HI0.out)|refine below_set ?_ GE159.out|refine below_set ?_ GE163.out)|exact HB.out),by repeat (first|(with_reducible first|exact HK.out|apply KeepBut.set_|apply keep_drewN|apply keep_drew|apply keep_alloc|refine keep_far ?_ GW159.out _|refine keep_far ?_ GW163.out _)|exact HK.out)⟩
end Go.Proofs.Ytpdnabhpkdchjaa.P
namespace Go.Proofs.Ytpdnabhpkdchjaa.P
open Go.RowKit Go.Proofs.YtpdnabhpkdchjaaW.PrintWords Go.Proofs.YtpdnabhpkdchjaaW.PrintLast Go.Proofs.YtpdnabhpkdchjaaW.PrintMore
set_option linter.unusedVariables false
set_option linter.unusedSimpArgs false
def CtrsOk (n : Int) (l : List S88) : Prop := ∀ x ∈ l, -1 ≤ x.f0 ∧ x.f0 < n ∧ -1 ≤ x.f1 ∧ x.f1 < n ∧ x.f0 ≠ x.f1
theorem layOk_mk {n : Int} {l : List S88} (h0 : 1 ≤ n) (h1 : n ≤ 60) (h2 : l.length ≤ 120) (h : CtrsOk n l) : layoutOk n l = 0 := by
  unfold layoutOk
  rw [if_neg (by omega), if_neg (by omega), if_neg (by omega), if_pos]
  refine List.all_eq_true.2 fun x hx => ?_
  have := h x hx
  simp only [ctrOk, inB, Bool.and_eq_true, decide_eq_true_eq, Bool.not_eq_true', beq_eq_false_iff_ne]
  exact ⟨⟨⟨this.1, this.2.1⟩, this.2.2.1, this.2.2.2.1⟩, this.2.2.2.2⟩
theorem CtrsOk.app {n : Int} {l : List S88} {x : S88} (h : CtrsOk n l) (hx : -1 ≤ x.f0 ∧ x.f0 < n ∧ -1 ≤ x.f1 ∧ x.f1 < n ∧ x.f0 ≠ x.f1) : CtrsOk n (l ++ [x]) := by
  intro y hy
  rcases List.mem_append.1 hy with hy | hy
  · exact h y hy
  · rw [List.mem_singleton.1 hy]; exact hx
theorem layD1 {code : List Int} {n : Int} (hn0 : 1 ≤ n) (hn1 : n ≤ 5) (m : Nat) : ∀ (q : Nat) (b : Int) (c : Int × Int) (l : List S88), q ≤ 3 → CtrsOk n l → l.length + q ≤ 9 → CurOk code b c → b + 4 * q ≤ 2000000000 →
    ∃ l' c', spec_l5Cur_layout.l1 (q + 1 + m) (q : Int) code c.1 c.2 n l = some (n, l', c'.1, c'.2) ∧ CtrsOk n l' ∧ l'.length ≤ l.length + q ∧ CurOk code (b + 4 * q) c' := by
  intro q
  induction q with
  | zero =>
    intro b c l _ hl _ hc _
    refine ⟨l, c, ?_, hl, by omega, hc.mono (by omega)⟩
    rw [show 0 + 1 + m = m + 1 by omega]
    simp only [spec_l5Cur_layout.l1]
    rw [if_neg (by omega)]
  | succ q ih =>
    intro b c l hq hl hll hc hb
    have hw : wrap64 (n + 1) = n + 1 := wrap_id (by omega) (by omega)
    obtain ⟨v, c1, e1, _, v0, v1, hc1⟩ := pick_ok (m := n + 1) hc (by omega) (by omega)
    obtain ⟨u, c2, e2, _, u0, u1, hc2⟩ := pick_ok (m := n + 1) hc1 (by omega) (by omega)
    have w1 : wrap64 (v - 1) = v - 1 := wrap_id (by omega) (by omega)
    have w2 : wrap64 (u - 1) = u - 1 := wrap_id (by omega) (by omega)
    have w3 : wrap64 (((q + 1 : Nat) : Int) - 1) = (q : Int) := (wrap_id (by omega) (by omega)).trans (by omega)
    rw [show q + 1 + 1 + m = (q + 1 + m) + 1 by omega]
    simp only [spec_l5Cur_layout.l1, hw, e1, e2, Option.bind_some, w1, w2, w3]
    rw [if_pos (show ((q + 1 : Nat) : Int) > 0 by omega)]
    by_cases h : v - 1 = u - 1
    · rw [if_pos h]
      obtain ⟨l', c', e, k1, k2, k3⟩ := ih (b + 4) c2 l (by omega) hl (by omega) (hc2.mono (by omega)) (by omega)
      exact ⟨l', c', e, k1, by omega, k3.mono (by omega)⟩
    · rw [if_neg h, if_pos (by omega)]
      obtain ⟨l', c', e, k1, k2, k3⟩ := ih (b + 4) c2 (l ++ [⟨v - 1, u - 1⟩]) (by omega) (hl.app ⟨by show -1 ≤ v - 1; omega, by show v - 1 < n; omega, by show -1 ≤ u - 1; omega, by show u - 1 < n; omega, h⟩) (by simp; omega) (hc2.mono (by omega)) (by omega)
      exact ⟨l', c', e, k1, by simp at k2; omega, k3.mono (by omega)⟩
theorem layD0 {code : List Int} {n : Int} (hn0 : 1 ≤ n) (hn1 : n ≤ 5) : ∀ (d i : Nat) (b : Int) (c : Int × Int) (l : List S88), (i : Int) + d = n + 1 → CtrsOk n l → l.length ≤ i → CurOk code b c → b + 2 * d ≤ 1999999000 →
    ∃ l' c', spec_l5Cur_layout.l0 (d + 4) (i : Int) code c.1 c.2 n l = some (n, l', c'.1, c'.2) ∧ CtrsOk n l' ∧ l'.length ≤ 9 ∧ CurOk code (b + 2 * d + 20) c' := by
  intro d
  induction d with
  | zero =>
    intro i b c l hi hl hll hc hb
    obtain ⟨v, c1, e1, _, v0, v1, hc1⟩ := pick_ok (m := 3) hc (by omega) (by omega)
    obtain ⟨v, rfl⟩ := Int.eq_ofNat_of_zero_le v0
    obtain ⟨l', c', e, k1, k2, k3⟩ := layD1 hn0 hn1 (2 - v) v (b + 2) c1 l (by omega) hl (by omega) hc1 (by omega)
    refine ⟨l', c', ?_, k1, by omega, k3.mono (by omega)⟩
    rw [show v + 1 + (2 - v) = 3 by omega] at e
    simp only [spec_l5Cur_layout.l0, e1, Option.bind_some]
    rw [if_neg (by omega)]
    exact e
  | succ d ih =>
    intro i b c l hi hl hll hc hb
    obtain ⟨v, c1, e1, _, v0, v1, hc1⟩ := pick_ok (m := 12) hc (by omega) (by omega)
    have w1 : wrap64 ((i : Int) - 1) = (i : Int) - 1 := wrap_id (by omega) (by omega)
    have w2 : wrap64 ((i : Int) + 1) = ((i + 1 : Nat) : Int) := wrap_succ (by omega)
    have hh : ∀ l1 : List S88, CtrsOk n l1 → l1.length ≤ i + 1 → ∃ l' c', spec_l5Cur_layout.l0 (d + 4) ((i + 1 : Nat) : Int) code c1.1 c1.2 n l1 = some (n, l', c'.1, c'.2) ∧ CtrsOk n l' ∧ l'.length ≤ 9 ∧ CurOk code (b + 2 * ((d + 1 : Nat) : Int) + 20) c' := by
      intro l1 k1 k2
      obtain ⟨l', c', e, k3, k4, k5⟩ := ih (i + 1) (b + 2) c1 l1 (by omega) k1 k2 hc1 (by omega)
      exact ⟨l', c', e, k3, k4, k5.mono (by omega)⟩
    rw [show d + 1 + 4 = (d + 4) + 1 by omega]
    simp only [spec_l5Cur_layout.l0, e1, Option.bind_some, w1, w2]
    rw [if_pos (by omega)]
    by_cases h : (i : Int) = n
    · rw [if_pos h]
      by_cases hv : v > 0
      · rw [if_pos hv, if_pos (by omega)]
        exact hh _ (hl.app ⟨by show -1 ≤ (i : Int) - 1; omega, by show (i : Int) - 1 < n; omega, by show (-1 : Int) ≤ -1; omega, by show (-1 : Int) < n; omega, by show (i : Int) - 1 ≠ -1; omega⟩) (by simp; omega)
      · rw [if_neg hv]
        exact hh _ hl (by omega)
    · rw [if_neg h]
      by_cases hv : v > 0
      · rw [if_pos hv, if_pos (by omega)]
        exact hh _ (hl.app ⟨by show -1 ≤ (i : Int) - 1; omega, by show (i : Int) - 1 < n; omega, by show -1 ≤ (i : Int); omega, by show (i : Int) < n; omega, by show (i : Int) - 1 ≠ i; omega⟩) (by simp; omega)
      · rw [if_neg hv]
        exact hh _ hl (by omega)
theorem layD {code : List Int} {b : Int} {c : Int × Int} (hc : CurOk code b c) (hb : b ≤ 1000000000) :
    ∃ k n l c', spec_l5Cur_layout.f k code c.1 c.2 = some (n, l, c'.1, c'.2) ∧ 1 ≤ n ∧ n ≤ 5 ∧ l.length ≤ 9 ∧ layoutOk n l = 0 ∧ CurOk code (b + 50) c' := by
  obtain ⟨v, c1, e1, _, v0, v1, hc1⟩ := pick_ok (m := 5) hc (by omega) (by omega)
  have w1 : wrap64 (1 + v) = 1 + v := wrap_id (by omega) (by omega)
  obtain ⟨l, c', e, k1, k2, k3⟩ := layD0 (n := 1 + v) (by omega) (by omega) (2 + v).toNat 0 (b + 2) c1 [] (by omega) (fun x hx => by simp at hx) (by simp) hc1 (by omega)
  refine ⟨(2 + v).toNat + 4, 1 + v, l, c', ?_, by omega, by omega, k2, layOk_mk (by omega) (by omega) (by omega) k1, k3.mono (by omega)⟩
  unfold spec_l5Cur_layout.f
  rw [e1, Option.bind_some, w1]
  exact e
end Go.Proofs.Ytpdnabhpkdchjaa.P
namespace Go.Proofs.Ytpdnabhpkdchjaa.P
open Go.RowKit Go.Proofs.YtpdnabhpkdchjaaW.PrintWords Go.Proofs.YtpdnabhpkdchjaaW.PrintLast Go.Proofs.YtpdnabhpkdchjaaW.PrintMore
set_option linter.unusedVariables false
set_option linter.unusedSimpArgs false
structure EvSt (w0 w W : World) (g gl : Nat) (code : List Int) (n : Int) (A : Option Addr) (len c1 : Nat) (c : Int × Int) (v7 v8 : Value) (out : List S56) (th : List Int) : Prop where
  cur : IsS116 w0 W g code c.1 c.2
  below : Below w0.heap.size w0 W
  keep : KeepBut w W g none
  box : W.heap[gl]? = some (.cells #[.int .i64 n, .slice A len c1] 30 (0, 0))
  le0 : w0.heap.size ≤ w.heap.size
  gw : w.heap.size ≤ gl
  o : Kd.R k56 56 W w.heap.size (fun _ => True) v7 out
  t : Kd.R (Kd.int .i64) 3 W w.heap.size (fun _ => True) v8 th
section
variable {w0 w W W' : World} {g gl len c1 : Nat} {code : List Int} {n : Int} {A : Option Addr} {c c' : Int × Int} {v7 v8 v1 : Value} {out out' : List S56} {th th' : List Int}
theorem EvSt.call (h : EvSt w0 w W g gl code n A len c1 c v7 v8 out th) (hi : IsS116 w0 W' g code c'.1 c'.2) (hb : Below w0.heap.size w0 W') (hk : KeepBut W W' g none) : EvSt w0 w W' g gl code n A len c1 c' v7 v8 out th where
  cur := hi
  below := hb
  keep := h.keep.trans hk (.inl rfl)
  box := hk.blk h.box (fun e => h.cur.ne_blk h.box (by decide) e.symm) (by simp)
  le0 := h.le0
  gw := h.gw
  o := Kd.R_mono (Kd.R_keep (h.cur.apart h.o (by decide)) hk (fun _ x => x.2)) (fun _ _ => trivial)
  t := Kd.R_mono (Kd.R_keep (h.cur.apart h.t (by decide)) hk (fun _ x => x.2)) (fun _ _ => trivial)
theorem EvSt.up (h : EvSt w0 w W g gl code n A len c1 c v7 v8 out th) (hb : Below W.heap.size W W') : EvSt w0 w W' g gl code n A len c1 c v7 v8 out th where
  cur := h.cur.below hb
  below := below_step h.below hb
  keep := h.keep.trans (KeepBut.of_below hb g none) (.inl rfl)
  box := blk_below h.box hb
  le0 := h.le0
  gw := h.gw
  o := Kd.R_below h.o hb
  t := Kd.R_below h.t hb
theorem EvSt.row (h : EvSt w0 w W g gl code n A len c1 c v7 v8 out th) (hr : Kd.R k56 56 W' w.heap.size (fun _ => True) v1 out') (hg : W.grownBy W' v7.ownBlock) : EvSt w0 w W' g gl code n A len c1 c v1 v8 out' th where
  cur := h.cur.grown hg (h.cur.own_ne h.o (by decide))
  below := pw_below_grown h.below _ h.below.size hg (fun k hk => Nat.le_trans h.le0 (Kd.R_base h.o k hk))
  keep := h.keep.trans (KeepBut.of_grown hg g) (Kd.R_base2 h.o)
  box := blk_grown h.box hg (Kd.R_ne h.o h.box (by decide))
  le0 := h.le0
  gw := h.gw
  o := hr
  t := Kd.R_over h.t h.o (by decide) hg
theorem EvSt.put (h : EvSt w0 w W g gl code n A len c1 c v7 v8 out th) (hr : Kd.R (Kd.int .i64) 3 W' w.heap.size (fun _ => True) v8 th') (hg : W.grownBy W' v8.ownBlock) : EvSt w0 w W' g gl code n A len c1 c v7 v8 out th' where
  cur := h.cur.grown hg (h.cur.own_ne h.t (by decide))
  below := pw_below_grown h.below _ h.below.size hg (fun k hk => Nat.le_trans h.le0 (Kd.R_base h.t k hk))
  keep := h.keep.trans (KeepBut.of_grown hg g) (Kd.R_base2 h.t)
  box := blk_grown h.box hg (Kd.R_ne h.t h.box (by decide))
  le0 := h.le0
  gw := h.gw
  o := Kd.R_over h.o h.t (by decide) hg
  t := hr
end
end Go.Proofs.Ytpdnabhpkdchjaa.P
namespace Go.Proofs.Ytpdnabhpkdchjaa.P
open Go.RowKit Go.Proofs.YtpdnabhpkdchjaaW.PrintWords Go.Proofs.YtpdnabhpkdchjaaW.PrintLast Go.Proofs.YtpdnabhpkdchjaaW.PrintMore
set_option linter.unusedVariables false
set_option linter.unusedSimpArgs false
structure DrSt (w W : World) (gr gl gc : Nat) (code : List Int) (c : Int × Int) (n : Int) (A1 : Option Addr) (c1 : Nat) (l : List S88) : Prop where
  cur : IsS116 w W gc code c.1 c.2
  below : Below w.heap.size w W
  res : W.heap[gr]? = some (.cells #[.int .i64 0, .slice none 0 0] 30 (0, 0))
  lay : W.heap[gl]? = some (.cells #[.int .i64 n, .slice A1 l.length c1] 30 (0, 0))
  gre : w.heap.size ≤ gr
  ne : gl ≠ gr
  o : Kd.R k88 88 W w.heap.size (fun _ => True) (.slice A1 l.length c1) l
section
variable {w W W' : World} {gr gl gc c1 : Nat} {code : List Int} {c c' : Int × Int} {n : Int} {A1 : Option Addr} {l : List S88}
theorem DrSt.call (h : DrSt w W gr gl gc code c n A1 c1 l) (hi : IsS116 w W' gc code c'.1 c'.2) (hb : Below w.heap.size w W') (hk : KeepBut W W' gc none) : DrSt w W' gr gl gc code c' n A1 c1 l where
  cur := hi
  below := hb
  res := hk.blk h.res (fun e => h.cur.ne_blk h.res (by decide) e.symm) (by simp)
  lay := hk.blk h.lay (fun e => h.cur.ne_blk h.lay (by decide) e.symm) (by simp)
  gre := h.gre
  ne := h.ne
  o := Kd.R_mono (Kd.R_keep (h.cur.apart h.o (by decide)) hk (fun _ x => x.2)) (fun _ _ => trivial)
theorem DrSt.reads (h : DrSt w W gr gl gc code c n A1 c1 l) : ∀ W_, KeepBut W W_ gc none → Kd.C k88 W_ A1 l.length l := fun W_ hk => (Kd.R_reads' (Kd.R_keep (h.cur.apart h.o (by decide)) hk (fun _ x => x.2))).2.2
theorem DrSt.fin (h : DrSt w W gr gl gc code c n A1 c1 l) : ((W.setCell ⟨gr, 0, none⟩ (.int .i64 n)).setCell ⟨gr, 1, none⟩ (.slice A1 l.length c1)).heap[gr]? = some (.cells #[.int .i64 n, .slice A1 l.length c1] 30 (0, 0)) := blk_put (blk_put h.res 0 (.int .i64 n) rfl) 1 (.slice A1 l.length c1) rfl
theorem DrSt.finB (h : DrSt w W gr gl gc code c n A1 c1 l) : Below w.heap.size w ((W.setCell ⟨gr, 0, none⟩ (.int .i64 n)).setCell ⟨gr, 1, none⟩ (.slice A1 l.length c1)) := below_set (j := 1) (below_set (j := 0) h.below h.gre) h.gre
theorem DrSt.finR {α : Type} {d : Kd α} {e : Nat} {v : Value} {xs : List α} (h : DrSt w W gr gl gc code c n A1 c1 l) (hr : Kd.R d e W w.heap.size (fun _ => True) v xs) (ht : ∀ q, q ∈ e :: d.E → q ≠ 30) : Kd.R d e ((W.setCell ⟨gr, 0, none⟩ (.int .i64 n)).setCell ⟨gr, 1, none⟩ (.slice A1 l.length c1)) w.heap.size (fun _ => True) v xs :=
  Kd.R_set (Kd.R_set hr h.res ht 0 (.int .i64 n)) (blk_put h.res 0 (.int .i64 n) rfl) ht 1 (.slice A1 l.length c1)
end
end Go.Proofs.Ytpdnabhpkdchjaa.P
namespace Go.Proofs.Ytpdnabhpkdchjaa.P
open Go Go.RowKit Go.Proofs.YtpdnabhpkdchjaaW.PrintWords Go.Proofs.YtpdnabhpkdchjaaW.PrintLast Go.Proofs.YtpdnabhpkdchjaaW.PrintMore
set_option linter.unusedVariables false
set_option linter.unusedSimpArgs false
structure SpSt (w0 w W : World) (g gx gy : Nat) (code : List Int) (b : Int) (c : Int × Int) (n : Int) (row : Option Nat) (A1 : Option Addr) (c1 : Nat) (l : List S88) : Prop where
  ok : CurOk code b c
  cur : IsS116 w0 W g code c.1 c.2
  below : Below w0.heap.size w0 W
  res : W.heap[gy]? = some (.cells #[.int .i64 0, .slice none 0 0] 30 (0, 0))
  lay : W.heap[gx]? = some (.cells #[.int .i64 n, .slice A1 l.length c1] 30 (0, 0))
  sz : w0.heap.size ≤ w.heap.size
  gxe : w.heap.size ≤ gx
  gye : w.heap.size ≤ gy
  ne : gx ≠ gy
  o : Kd.R k88 88 W w0.heap.size (fun _ => True) (.slice A1 l.length c1) l
  keep : KeepBut w W g row
section
variable {w0 w W W' : World} {g gx gy c1 : Nat} {code : List Int} {b b' : Int} {c c' : Int × Int} {n : Int} {row : Option Nat} {A1 : Option Addr} {l : List S88}
theorem SpSt.call (h : SpSt w0 w W g gx gy code b c n row A1 c1 l) (hc : CurOk code b' c') (hi : IsS116 w0 W' g code c'.1 c'.2) (hb : Below w0.heap.size w0 W') (hk : KeepBut W W' g none) : SpSt w0 w W' g gx gy code b' c' n row A1 c1 l where
  ok := hc
  cur := hi
  below := hb
  res := hk.blk h.res (fun e => h.cur.ne_blk h.res (by decide) e.symm) (by simp)
  lay := hk.blk h.lay (fun e => h.cur.ne_blk h.lay (by decide) e.symm) (by simp)
  sz := h.sz
  gxe := h.gxe
  gye := h.gye
  ne := h.ne
  o := Kd.R_mono (Kd.R_keep (h.cur.apart h.o (by decide)) hk (fun _ x => x.2)) (fun _ _ => trivial)
  keep := ⟨Nat.le_trans h.keep.1 hk.1, fun i hi hg hr => (hk.2 i (Nat.lt_of_lt_of_le hi h.keep.1) hg (by simp)).trans (h.keep.2 i hi hg hr)⟩
theorem SpSt.up (h : SpSt w0 w W g gx gy code b c n row A1 c1 l) (hb : Below W.heap.size W W') : SpSt w0 w W' g gx gy code b c n row A1 c1 l where
  ok := h.ok
  cur := h.cur.below hb
  below := below_step h.below hb
  res := blk_below h.res hb
  lay := blk_below h.lay hb
  sz := h.sz
  gxe := h.gxe
  gye := h.gye
  ne := h.ne
  o := Kd.R_below h.o hb
  keep := ⟨Nat.le_trans h.keep.1 hb.size, fun i hi hg hr => (hb.block i (Nat.lt_of_lt_of_le hi h.keep.1)).trans (h.keep.2 i hi hg hr)⟩
theorem SpSt.setN (h : SpSt w0 w W g gx gy code b c n row A1 c1 l) (m : Int) : SpSt w0 w (W.setCell ⟨gx, 0, none⟩ (.int .i64 m)) g gx gy code b c m row A1 c1 l where
  ok := h.ok
  cur := h.cur.far (fun e => h.cur.ne_blk h.lay (by decide) e) _
  below := below_set h.below (Nat.le_trans h.sz h.gxe)
  res := blk_far h.res (fun e => h.ne e.symm) _
  lay := blk_put h.lay 0 (.int .i64 m) rfl
  sz := h.sz
  gxe := h.gxe
  gye := h.gye
  ne := h.ne
  o := Kd.R_set h.o h.lay (by decide) 0 _
  keep := keep_far h.keep h.gxe _
theorem SpSt.setL {A2 : Option Addr} {c2 : Nat} {l2 : List S88} (h : SpSt w0 w W g gx gy code b c n row A1 c1 l) (ho : Kd.R k88 88 W w0.heap.size (fun _ => True) (.slice A2 l2.length c2) l2) : SpSt w0 w (W.setCell ⟨gx, 1, none⟩ (.slice A2 l2.length c2)) g gx gy code b c n row A2 c2 l2 where
  ok := h.ok
  cur := h.cur.far (fun e => h.cur.ne_blk h.lay (by decide) e) _
  below := below_set h.below (Nat.le_trans h.sz h.gxe)
  res := blk_far h.res (fun e => h.ne e.symm) _
  lay := blk_put h.lay 1 (.slice A2 l2.length c2) rfl
  sz := h.sz
  gxe := h.gxe
  gye := h.gye
  ne := h.ne
  o := Kd.R_set ho h.lay (by decide) 1 _
  keep := keep_far h.keep h.gxe _
theorem SpSt.setA {gr i j : Nat} {v : Value} {x' : S88} (h : SpSt w0 w W g gx gy code b c n row (some ⟨gr, 0, none⟩) c1 l) (hi : i < l.length) (hj : j < 2)
    (hM : ∀ okp, k88.M W w0.heap.size okp x' (([.int .i64 (rd_T88 l (i : Int)).f0, .int .i64 (rd_T88 l (i : Int)).f1] : List Value).take j ++ [v] ++ ([.int .i64 (rd_T88 l (i : Int)).f0, .int .i64 (rd_T88 l (i : Int)).f1] : List Value).drop (j + 1))) (hrow : row = some gr ∨ w.heap.size ≤ gr) :
    SpSt w0 w (W.setCell ⟨gr, i * 2 + j, none⟩ v) g gx gy code b c n row (some ⟨gr, 0, none⟩) c1 (l.set i x') := by
  obtain ⟨cs, hcl, hMc, hcc, -⟩ := Kd.R_elem h.o z88 (i : Int) (by omega) (by omega)
  obtain rfl := k88_openM hMc
  obtain ⟨hR, hg⟩ := Kd.R_seg (seg := [v]) (j := j) (x' := x') (okp := fun k => k ≠ gr) h.o (i : Int) (by omega) (by omega) hcl hcc (by show j + 1 ≤ 2; omega) (hM _) (fun k hk => ⟨trivial, hk⟩)
  rw [Int.toNat_natCast] at hR hg
  have hR : Kd.R k88 88 (W.setCell ⟨gr, i * 2 + j, none⟩ v) w0.heap.size (fun _ => True) (.slice (some ⟨gr, 0, none⟩) l.length c1) (l.set i x') := hR
  have hbase := Kd.R_base h.o gr rfl
  have n1 : gr ≠ gx := fun e => Kd.R_ne h.o h.lay (by decide) (by rw [← e]; rfl)
  have n2 : gr ≠ gy := fun e => Kd.R_ne h.o h.res (by decide) (by rw [← e]; rfl)
  have n3 : g ≠ gr := fun e => h.cur.own_ne h.o (by decide) (by rw [e]; rfl)
  refine {
    ok := h.ok
    cur := h.cur.far (p := ⟨gr, i * 2 + j, none⟩) n3 _
    below := below_set h.below hbase
    res := blk_far h.res (fun e => n2 e.symm) _
    lay := ?_
    sz := h.sz
    gxe := h.gxe
    gye := h.gye
    ne := h.ne
    o := ?_
    keep := ?_ }
  · rw [List.length_set]
    exact blk_far h.lay (fun e => n1 e.symm) _
  · rw [List.length_set]
    exact hR
  · refine ⟨by simpa [World.setCell] using h.keep.1, fun k hk hkg hkr => ?_⟩
    have hne : k ≠ gr := by
      rcases hrow with e | e
      · exact fun q => hkr (by rw [e, q])
      · omega
    exact (Below.heap_setCell W ⟨gr, i * 2 + j, none⟩ v k hne).trans (h.keep.2 k hk hkg hkr)
theorem SpSt.fin (h : SpSt w0 w W g gx gy code b c n row A1 c1 l) :
    ((W.setCell ⟨gy, 0, none⟩ (.int .i64 n)).setCell ⟨gy, 1, none⟩ (.slice A1 l.length c1)).heap[gy]? = some (.cells #[.int .i64 n, .slice A1 l.length c1] 30 (0, 0)) ∧ IsS116 w0 ((W.setCell ⟨gy, 0, none⟩ (.int .i64 n)).setCell ⟨gy, 1, none⟩ (.slice A1 l.length c1)) g code c.1 c.2 ∧ Below w0.heap.size w0 ((W.setCell ⟨gy, 0, none⟩ (.int .i64 n)).setCell ⟨gy, 1, none⟩ (.slice A1 l.length c1)) ∧
    Kd.R k88 88 ((W.setCell ⟨gy, 0, none⟩ (.int .i64 n)).setCell ⟨gy, 1, none⟩ (.slice A1 l.length c1)) w0.heap.size (fun _ => True) (.slice A1 l.length c1) l ∧ KeepBut w ((W.setCell ⟨gy, 0, none⟩ (.int .i64 n)).setCell ⟨gy, 1, none⟩ (.slice A1 l.length c1)) g row := by
  have ng := h.cur.ne_blk h.res (by decide)
  have hy := Nat.le_trans h.sz h.gye
  exact ⟨blk_put (blk_put h.res 0 (.int .i64 n) rfl) 1 (.slice A1 l.length c1) rfl, (h.cur.far (p := ⟨gy, 0, none⟩) ng _).far (p := ⟨gy, 1, none⟩) ng _, below_set (j := 1) (below_set (j := 0) h.below hy) hy,
    Kd.R_set (Kd.R_set h.o h.res (by decide) 0 (.int .i64 n)) (blk_put h.res 0 (.int .i64 n) rfl) (by decide) 1 _, keep_far (keep_far h.keep (p := ⟨gy, 0, none⟩) h.gye _) (p := ⟨gy, 1, none⟩) h.gye _⟩
theorem SpSt.cells (h : SpSt w0 w W g gx gy code b c n row A1 c1 l) : W.cell? ⟨gx, 0, none⟩ = some (.int .i64 n) ∧ W.cell? ⟨gx, 1, none⟩ = some (.slice A1 l.length c1) ∧ W.cell? ⟨gy, 0, none⟩ = some (.int .i64 0) ∧ W.cell? ⟨gy, 1, none⟩ = some (.slice none 0 0) ∧ (∀ j, W.frozen? ⟨gx, j, none⟩ = false) ∧ ∀ j, W.frozen? ⟨gy, j, none⟩ = false := by
  have a0 := blk_cell h.lay 0
  have a1 := blk_cell h.lay 1
  have b0 := blk_cell h.res 0
  have b1 := blk_cell h.res 1
  exact ⟨a0, a1, b0, b1, fun j => blk_frozen h.lay j, fun j => blk_frozen h.res j⟩
def SpOut (w0 w : World) (g : Nat) (code : List Int) (b : Int) (row : Option Nat) (e : Ending) (w' : World) : Prop :=
  ∃ (n' : Int) (l' : List S88) (A2 : Option Addr) (c2 : Nat) (c' : Int × Int), e = .returned (.agg #[.int .i64 n', .slice A2 l'.length c2]) ∧ l'.length ≤ 121 ∧ CurOk code b c' ∧ IsS116 w0 w' g code c'.1 c'.2 ∧ Below w0.heap.size w0 w' ∧ Kd.R k88 88 w' w0.heap.size (fun _ => True) (.slice A2 l'.length c2) l' ∧ KeepBut w w' g row
end
theorem own_four (W : World) (a b c d : Int) : Kd.R (Kd.int .i64) 3 (W.alloc (.cells #[.int .i64 a, .int .i64 b, .int .i64 c, .int .i64 d] 3)) W.heap.size (fun _ => True) (.slice (some ⟨W.heap.size, 0, none⟩) 4 4) [a, b, c, d] :=
  ⟨fun _ _ => trivial, OwnRow.lit W W.heap.size (show Reps ((Kd.int .i64).M _ _ _) 1 [a, b, c, d] [.int .i64 a, .int .i64 b, .int .i64 c, .int .i64 d] from Kd.reps_scalar (enc := Value.int .i64) [a, b, c, d]) (Nat.le_refl _) (by simp)⟩
end Go.Proofs.Ytpdnabhpkdchjaa.P
namespace Go.Proofs.Ytpdnabhpkdchjaa.P
open Go Go.RowKit Go.Proofs.YtpdnabhpkdchjaaW.PrintWords Go.Proofs.YtpdnabhpkdchjaaW.PrintLast Go.Proofs.YtpdnabhpkdchjaaW.PrintMore
set_option linter.unusedVariables false
set_option linter.unusedSimpArgs false
def so_T3 : Bool × List (List Nat × List Nat) := (true, [([], []), ([0], [0]), ([], []), ([], []), ([3], [3]), ([4], [4]), ([2, 5], [2, 5]), ([1, 6], [1, 6]), ([7, 6, 0, 1, 2, 3, 4, 5, 6, 7], [7])])
def so_B3 : List Nat := [0, 1, 0, 0, 8, 24, 60, 127, 255]
theorem so_tab3 : rtab .any (opsOf Try.f109 3) = so_T3 := by kernel_rfl
theorem so_bits3 : waitsOk so_T3.2 so_B3 = true := by kernel_rfl
def so_T7 : Bool × List (List Nat × List Nat) := (true, [([], []), ([], []), ([1], [1]), ([2], [2]), ([], []), ([4], [4]), ([3, 5], [3, 5]), ([], []), ([7], [7]), ([6, 8], [6, 8]), ([9], [9]), ([0, 0, 1, 2, 3, 4, 5, 6, 7, 8, 9, 10], [0]), ([11, 0, 1, 2, 3, 4, 5, 6, 7, 8, 9, 10], [11]), ([12, 10, 8, 0, 1, 2, 3, 4, 5, 6, 7, 8, 9, 10], [10, 12])])
def so_B7 : List Nat := [0, 0, 2, 6, 0, 16, 62, 0, 128, 510, 1022, 2047, 4095, 8191]
theorem so_tab7 : rtab .any (opsOf Try.f109 7) = so_T7 := by kernel_rfl
theorem so_bits7 : waitsOk so_T7.2 so_B7 = true := by kernel_rfl
def so_T9 : Bool × List (List Nat × List Nat) := (true, [([], []), ([], []), ([1], [1]), ([2], [2]), ([], []), ([4], [4]), ([3, 5], [3, 5]), ([], []), ([7], [7]), ([6, 8], [6, 8]), ([9], [9]), ([0, 0, 1, 2, 3, 4, 5, 6, 7, 8, 9, 10], [0]), ([11, 0, 1, 2, 3, 4, 5, 6, 7, 8, 9, 10], [11]), ([12, 10, 8, 0, 1, 2, 3, 4, 5, 6, 7, 8, 9, 10], [10, 12])])
def so_B9 : List Nat := [0, 0, 2, 6, 0, 16, 62, 0, 128, 510, 1022, 2047, 4095, 8191]
theorem so_tab9 : rtab .any (opsOf Try.f109 9) = so_T9 := by kernel_rfl
theorem so_bits9 : waitsOk so_T9.2 so_B9 = true := by kernel_rfl
theorem grown_up {W w1 : World} (hg : W.grownBy w1 none) : Below W.heap.size W w1 := (Below.refl W.heap.size W).grown hg (Nat.le_refl _) (fun _ h => nomatch h)
set_option maxHeartbeats 16000000 in
set_option maxRecDepth 100000 in
theorem spoil_is (g : Nat) {code : List Int} {b : Int} {c : Int × Int} (n : Int) (A1 : Option Addr) (c1 : Nat) (l : List S88) (w0 w : World) (hc : CurOk code b c) (hb : b ≤ 1000000000) (hI : IsS116 w0 w g code c.1 c.2) (hB : Below w0.heap.size w0 w) (hR : Kd.R k88 88 w w0.heap.size (fun _ => True) (.slice A1 l.length c1) l) (hl : l.length ≤ 121) :
    Calls Try.prog 109 #[.pointer (some ⟨g, 0, none⟩), .agg #[.int .i64 n, .slice A1 l.length c1]] w (SpOut w0 w g code (b + 8) (Value.slice A1 l.length c1).ownBlock) := by
  have HI := Aside0.mk hI
  have HB := Aside0.mk hB
  have HR := Aside0.mk hR
  have HC := Aside0.mk hc
  have HL := Aside0.mk hl
  have HBB := Aside0.mk hb
  clear hI hB hR hc hl hb
  go_enter Try.func109, Try.ntmps109
  go_upto_region 1 with (first | ((with_reducible refine gate_dst (N := 3) rfl ?_); refine box_event ?hg (N := 3) ?hd (cs := #[.int .i64 n, .slice A1 l.length c1]) (t := 30) ?hr ?_; (case hd => rfl); (case hg => rfl); (case hr => first | (go_simp; done) | (go_simp; rfl)); intro gx ex wx kx bx; have EX := Aside0.mk ex; have KX := Aside0.mk kx; have BX := Aside0.mk bx; clear ex kx bx; have kx0 : wx.cell? ⟨gx, 0, none⟩ = some (.int .i64 n) := (blk_cell KX.out 0).trans rfl; have zkx0 := blk_frozen KX.out 0; have kx1 : wx.cell? ⟨gx, 1, none⟩ = some (.slice A1 l.length c1) := (blk_cell KX.out 1).trans rfl; have zkx1 := blk_frozen KX.out 1) | ((with_reducible refine gate_dst (N := 4) rfl ?_); refine box_event ?hg (N := 4) ?hd (cs := #[.int .i64 0, .slice none 0 0]) (t := 30) ?hr ?_; (case hd => rfl); (case hg => rfl); (case hr => first | (go_simp; done) | (go_simp; rfl)); intro gq eq wq kq bq; have EQ := Aside0.mk eq; have KQ := Aside0.mk kq; have BQ := Aside0.mk bq; clear eq kq bq; have kq0 : wq.cell? ⟨gq, 0, none⟩ = some (.int .i64 0) := (blk_cell KQ.out 0).trans rfl; have zkq0 := blk_frozen KQ.out 0; have kq1 : wq.cell? ⟨gq, 1, none⟩ = some (.slice none 0 0) := (blk_cell KQ.out 1).trans rfl; have zkq1 := blk_frozen KQ.out 1))
  have HS := Aside0.mk (SpSt.mk (w0 := w0) (w := w) (W := wq) (gx := gx) (gy := gq) (row := (Value.slice A1 l.length c1).ownBlock) HC.out ((HI.out.below BX.out).below BQ.out) (below_step (below_step HB.out BX.out) BQ.out) KQ.out (blk_below KX.out BQ.out) HB.out.size (Nat.le_of_eq EX.out.symm) (Nat.le_trans BX.out.size (Nat.le_of_eq EQ.out.symm)) (fun e => by have h1 := blk_lt KX.out; have h2 := EQ.out; omega) (Kd.R_below (Kd.R_below HR.out BX.out) BQ.out) (KeepBut.of_below (below_step BX.out BQ.out) g _))
  clear kx0 zkx0 kx1 zkx1 kq0 zkq0 kq1 zkq1 KX BX EX KQ BQ EQ HI HB HR HC
  go_upto_region 10 with (go_at_call 108; refine (pick_is g w0 _ HS.out.ok (by have := HBB.out; omega) (by decide) HS.out.cur HS.out.below).mono ?_; rintro e w1 ⟨v, c2, rfl, -, v0, v1, hc, hi, hb, hk⟩; have HS := Aside0.mk (HS.out.call hc hi hb hk); clear hc hi hb hk)
  have hv : v = 0 ∨ v = 1 ∨ (v ≠ 0 ∧ v ≠ 1) := by omega
  rcases hv with h0 | h0 | ⟨h0, h1⟩
  · have hz : (v == 0) = true := by rw [h0]; rfl
    have HW := Aside0.mk (HS.out.up (below_alloc (Below.refl w1.heap.size w1) (.cells #[.int .i64 0, .int .i64 (-1), .int .i64 60, .int .i64 61] 3)))
    have RF := Aside0.mk (own_four w1 0 (-1) 60 61)
    clear h0 v0 v1
    go_upto_region 19 with (go_at_call 108; refine (pick_is g w0 _ HW.out.ok (by have := HBB.out; omega) (by decide) HW.out.cur HW.out.below).mono ?_; rintro e w2 ⟨u, c3, rfl, -, u0, u1, hc, hi, hb, hk⟩; have RV := Aside0.mk (Kd.R_keep (HW.out.cur.apart RF.out (by decide)) hk (fun _ x => x.2)); have HS := Aside0.mk (HW.out.call hc hi hb hk); have yv := (Kd.R_celln (0 : Int) (show (Kd.scalar (Value.int .i64) (fun _ => rfl)).R 3 w2 w1.heap.size (fun _ => True ∧ True) (.slice (some ⟨w1.heap.size, 0, none⟩) 4 4) [0, -1, 60, 61] from Kd.R_mono RV.out (fun _ _ => ⟨trivial, trivial⟩)) u u0 u1).1; have kx0 := HS.out.cells.1; have zx0 := HS.out.cells.2.2.2.2.1 0; generalize rdOf (0 : Int) [0, -1, 60, 61] u = m at yv; clear hc hi hb hk)
    have HS := Aside0.mk (HS.out.setN m)
    clear kx0 zx0 yv
    generalize w2.setCell ⟨gx, 0, none⟩ (.int .i64 m) = w3 at HS ⊢
    obtain ⟨kx0, kx1, kq0, kq1, zx, zq⟩ := HS.out.cells
    have zq0 := zq 0
    have zq1 := zq 1
    go_wp2_with fail
    refine bodyPost_ret (results_single rfl (Vals.cell gq 30 #[.int .i64 m, .slice A1 l.length c1] (0, 0) _ rfl HS.out.fin.1 Try.underlying30 rfl (by kernel_rfl) Vals.nil)) rfl ?_
    exact ⟨m, l, A1, c1, c3, rfl, HL.out, HS.out.ok.mono (by omega), HS.out.fin.2.1, HS.out.fin.2.2.1, HS.out.fin.2.2.2.1, HS.out.fin.2.2.2.2⟩
  · have hz : (v == 0) = false := by rw [h0]; rfl
    have hz1 : (v == 1) = true := by rw [h0]; rfl
    clear h0 v0 v1
    go_upto_region 14 with (first | (go_at_call 108; refine (pick_is g w0 _ HS.out.ok (by have := HBB.out; omega) (by decide) HS.out.cur HS.out.below).mono ?_; rintro e w2 ⟨u, c3, rfl, -, u0, u1, hc, hi, hb, hk⟩; have HS := Aside0.mk (HS.out.call hc hi hb hk); have HQ := Aside0.mk (show 0 ≤ 120 + u ∧ 120 + u ≤ 121 ∧ 120 ≤ 120 + u by omega); clear hc hi hb hk) | ((with_reducible refine gate_dst (N := 73) rfl ?_); refine Kd.R_make k88 (w0 := w0) w0.heap.size 88 rfl (N := 73) rfl 28 _ _ rfl (120 + u) rfl rfl Try.underlying28 (.agg #[.int .i64 0, .int .i64 0]) 16 info88 rfl (by decide) (by omega) z88 (ok := fun _ => True) (okp := fun _ => True) (k88_mkM _ _ _ z88) (fun _ hk => hk) trivial HQ.out.1 (by have := HQ.out; omega) HS.out.below HS.out.below.size ?_; intro v73 w3 ho hb hg hn; obtain ⟨ls, hls⟩ : ∃ ls, ls = List.replicate (120 + u).toNat z88 := ⟨_, rfl⟩; rw [← hls] at ho; have HLS := Aside0.mk (show ls.length = (120 + u).toNat by rw [hls, List.length_replicate]); obtain ⟨gr, cap, rfl, g1, g2, -⟩ := Kd.R_form ho (by have := HLS.out; have := HQ.out; omega); have HO := Aside0.mk ho; have HN := Aside0.mk hn; have HK2 := Aside0.mk (show w.heap.size ≤ w2.heap.size from HS.out.keep.1); have HS := Aside0.mk (HS.out.up (grown_up hg)); have kx1 := HS.out.cells.2.1; have zx1 := HS.out.cells.2.2.2.2.1 1; clear ho hb hg hn hls g1 g2))
    clear kx1 zx1
    have GR := Aside0.mk (show w.heap.size ≤ gr from by
      obtain ⟨k, e, hk⟩ := HN.out
      have e2 : gr = k := by simpa [Value.ownBlock] using e
      have hk2 := HK2.out
      omega)
    have HS := Aside0.mk (HS.out.setL HO.out)
    generalize w3.setCell ⟨gx, 1, none⟩ (.slice (some ⟨gr, 0, none⟩) ls.length cap) = w4 at HS ⊢
    have kx1 := HS.out.cells.2.1
    go_wp2_with fail
    clear kx1
    clear HO HN HK2
    go_loopg [78] ls.length (fun kq v78 w' => ∃ (i : Nat) (xs : List S88), v78 = .int .i64 i ∧ Aside0 (i + kq = ls.length) ∧ Aside0 (xs.length = ls.length) ∧ Aside0 (SpSt w0 w w' g gx gq code (b + 2 + 2) c3 n (Value.slice A1 l.length c1).ownBlock (some ⟨gr, 0, none⟩) cap xs))
    case atStart => exact ⟨0, ls, rfl, ⟨by omega⟩, ⟨rfl⟩, HS⟩
    case round =>
      clear HS
      obtain ⟨i, xs, rfl, HI, HX, HS⟩ := hrel
      by_cases hit : i < ls.length
      · obtain ⟨go1, rfl⟩ : ∃ g, gk = g + 1 := ⟨gk - 1, by have := HI.out; omega⟩
        have hit' : decide ((i : Int) < (ls.length : Int)) = true := decide_eq_true (by omega)
        have q0 : (0 : Int) ≤ (i : Int) := by omega
        have q1 : (i : Int) < (xs.length : Int) := by have := HX.out; omega
        have kx1 := HS.out.cells.2.1
        obtain ⟨cs, hcl, hMc, hcc, hfr⟩ := Kd.R_elem HS.out.o z88 (i : Int) q0 (by omega)
        obtain rfl := k88_openM hMc
        rw [Int.toNat_natCast] at hcc hfr
        have y0 : wr.cell? ⟨gr, i * 2, none⟩ = some (.int .i64 (rd_T88 xs (i : Int)).f0) := hcc 0 _ rfl
        have z0 : wr.frozen? ⟨gr, i * 2, none⟩ = false := hfr 0
        have W3 := Aside0.mk (show wrap64 ((i : Int) + 1) = ((i + 1 : Nat) : Int) from (wrap_id (by omega) (by have := HLS.out; have := HQ.out; omega)).trans (by omega))
        have NX := Aside0.mk (show i + 1 + go1 = ls.length by have := HI.out; omega)
        have HI2 := Aside0.mk (show i < xs.length by omega)
        clear hcl hMc hcc hfr
        go_wp2_with fail
        go_roundg go1
        case measure => omega
        case rel => exact ⟨i + 1, xs.set i ⟨-1, (rd_T88 xs (i : Int)).f1⟩, congrArg (Value.int .i64) W3.out, NX, ⟨by rw [List.length_set]; exact HX.out⟩, ⟨HS.out.setA (j := 0) HI2.out (by decide) (fun okp => k88_mkM _ _ _ ⟨-1, (rd_T88 xs (i : Int)).f1⟩) (.inr GR.out)⟩⟩
      · have hit' : decide ((i : Int) < (ls.length : Int)) = false := decide_eq_false (by omega)
        obtain ⟨kx0, kx1, kq0, kq1, zx, zq⟩ := HS.out.cells
        have zq0 := zq 0
        have zq1 := zq 1
        go_wp2_with fail
        refine bodyPost_ret (results_single rfl (Vals.cell gq 30 #[.int .i64 n, .slice (some ⟨gr, 0, none⟩) xs.length cap] (0, 0) _ rfl HS.out.fin.1 Try.underlying30 rfl (by kernel_rfl) Vals.nil)) rfl ?_
        exact ⟨n, xs, _, cap, c3, rfl, by have := HX.out; have := HLS.out; have := HQ.out; omega, HS.out.ok.mono (by omega), HS.out.fin.2.1, HS.out.fin.2.2.1, HS.out.fin.2.2.2.1, HS.out.fin.2.2.2.2⟩
  · have hz : (v == 0) = false := by simp [h0]
    have hz1 : (v == 1) = false := by simp [h1]
    clear h0 h1 v0 v1
    have kx1 := HS.out.cells.2.1
    by_cases hp : 0 < l.length
    · have hp' : decide ((0 : Int) < (l.length : Int)) = true := decide_eq_true (by omega)
      have hnil : l ≠ [] := fun e => by rw [e] at hp; exact Nat.lt_irrefl _ hp
      obtain ⟨gr, cap, e, g1, g2, -⟩ := Kd.R_form HS.out.o hp
      cases e
      have HP := Aside0.mk (show (0 : Int) < (l.length : Int) by omega)
      go_upto_region 3 with fail
      clear hp hp' hnil kx1 g1 g2
      have HS := Aside0.mk (HS.out.up (below_drew1 (Below.refl w1.heap.size w1)))
      refine startK 9 (S := fun w' => w'.cell? ⟨gx, 1, none⟩ = some (.slice (some ⟨gr, 0, none⟩) l.length c1)) (ds := []) (by kernel_rfl) rfl HS.out.cells.2.1 (fun hHeld => ?_)
      refine with_tabW so_tab3 so_bits3 (fun HT_ HW_ => ?_)
      repeat (first
        | (refine take0 (v := ?_) (a' := ?_) (by simp only [Nat.reduceAdd]; rfl) (by rfl) HT_.out HW_.out (by kernel_rfl) (by exact fun _ _ _ h => h) hHeld ?_ ?_ ?_; rotate_left 2; (· intro w' s0; go_simp; with_reducible rfl); (· simp only [Act.put, List.setIfInBounds_toArray, List.set_cons_zero, List.set_cons_succ, i64_w, i32_w]; rfl))
        | (refine takeG (v := ?_) (a' := ?_) (by simp only [Nat.reduceAdd]; rfl) (by rfl) (by rfl) HT_.out HW_.out (by kernel_rfl) (by exact fun _ _ _ h => h) hHeld ?_ ?_ ?_; rotate_left 2; (· first | (rw [if_neg (by decide)]; done) | (rw [if_pos (by decide)]; intro w' s0; go_simp; with_reducible rfl)); (· simp only [Act.put, List.setIfInBounds_toArray, List.set_cons_zero, List.set_cons_succ, i64_w, i32_w]; rfl))
        | (refine oneK (by simp only [Nat.reduceAdd]; rfl) (by rfl) HT_.out (by kernel_rfl) (by decide) (fun K hK => ?_); refine goes_ Try.func108 (by kernel_rfl) rfl #[.pointer (some ⟨g, 0, none⟩), .int .i64 (l.length : Int)] (by rfl) rfl rfl (by (try simp only [List.map_toArray, List.map_cons, List.map_nil]); first | done | rfl) ?_; ((with_reducible refine (pick_is g w0 _ HS.out.ok (show b + 2 ≤ 2305843009213693952 by have := HBB.out; omega) (show (0 : Int) < (l.length : Int) from HP.out) HS.out.cur HS.out.below).mono ?_); rintro e w' ⟨u, c3, rfl, -, u0, u1, hc, hi, hb, hk⟩); refine ⟨_, rfl, ?_⟩; have HS := Aside0.mk (HS.out.call hc hi hb hk); have HU := Aside0.mk (And.intro u0 u1); clear hc hi hb hk; refine hK.out _ _ HS.out.cells.2.1 (fun hHeld => ?_); clear hK K; refine norm_ (a' := ?_) ?_ ?_; rotate_left; · simp only [Act.put, List.setIfInBounds_toArray, List.set_cons_zero, List.set_cons_succ, i64_w, i32_w]; rfl))
      refine done_ (done_of HT_.out (by kernel_rfl)) ?_
      obtain ⟨m, hm⟩ : ∃ m : Nat, u.toNat = m := ⟨_, rfl⟩
      have HM := Aside0.mk (show m < l.length by have := HU.out; omega)
      rw [hm]
      clear hm hHeld HT_ HW_
      go_upto_region 6 with (go_at_call 108; refine (pick_is g w0 _ HS.out.ok (by have := HBB.out; omega) (by decide) HS.out.cur HS.out.below).mono ?_; rintro e w5 ⟨z, c4, rfl, -, z0, z1, hc, hi, hb, hk⟩; have HS := Aside0.mk (HS.out.call hc hi hb hk); clear hc hi hb hk)
      have hzz : z = 0 ∨ z = 1 ∨ (z ≠ 0 ∧ z ≠ 1) := by omega
      rcases hzz with h0 | h0 | ⟨h0, h1⟩
      · have hy0 : (z == 0) = true := by rw [h0]; rfl
        clear h0 z0 z1
        go_upto_region 7 with fail
        have HS := Aside0.mk (HS.out.up (below_drew1 (Below.refl w5.heap.size w5)))
        refine start_ (n := 14) (S := fun w' => w'.cell? ⟨gx, 0, none⟩ = some (.int .i64 n)) (ds := [13]) #[false, false, false, false, false, false, false, false, false, false, false, false, false, false] (by kernel_rfl) rfl rfl HS.out.cells.1 (fun hHeld => ?_)
        refine with_tabW so_tab7 so_bits7 (fun HT_ HW_ => ?_)
        generalize hdw : w5.drew = w95 at HS hHeld ⊢
        clear hdw
        refine pure_ (i := 0) (N := some 32) (v := ?_) (a' := ?_) #[true, false, false, false, false, false, false, false, false, false, false, false, false, false] rfl rfl (any_of HT_.out (by kernel_rfl)) (fun _ _ _ h => h) (Or.inl ⟨by rfl, ?_⟩) ?_ ?_
        rotate_left
        · intro w'
          go_simp
          with_reducible rfl
        rotate_left
        · simp only [Act.put, List.setIfInBounds_toArray, List.set_cons_zero, List.set_cons_succ, i64_w, i32_w]
          rfl
        refine pure_ (i := 1) (N := some 33) (v := ?_) (a' := ?_) #[true, true, false, false, false, false, false, false, false, false, false, false, false, false] rfl rfl (any_of HT_.out (by kernel_rfl)) (fun _ _ _ h => h) (Or.inl ⟨by rfl, ?_⟩) ?_ ?_
        rotate_left
        · intro w'
          go_simp
          with_reducible rfl
        rotate_left
        · simp only [Act.put, List.setIfInBounds_toArray, List.set_cons_zero, List.set_cons_succ, i64_w, i32_w]
          rfl
        refine take_ (i := 2) (N := some 34) (v := ?_) (a' := ?_) #[true, true, true, false, false, false, false, false, false, false, false, false, false, false] rfl rfl (take_ofW HT_.out HW_.out (by kernel_rfl)) (fun _ _ _ h => h) (Or.inl ⟨by rfl, ?_⟩) hHeld ?_ ?_
        rotate_left
        · rintro w' s0
          go_simp
          with_reducible rfl
        rotate_left
        · simp only [Act.put, List.setIfInBounds_toArray, List.set_cons_zero, List.set_cons_succ, i64_w, i32_w]
          rfl
        refine pure_ (i := 3) (N := some 35) (v := ?_) (a' := ?_) #[true, true, true, true, false, false, false, false, false, false, false, false, false, false] rfl rfl (any_of HT_.out (by kernel_rfl)) (fun _ _ _ h => h) (Or.inl ⟨by rfl, ?_⟩) ?_ ?_
        rotate_left
        · intro w'
          go_simp
          with_reducible rfl
        rotate_left
        · simp only [Act.put, List.setIfInBounds_toArray, List.set_cons_zero, List.set_cons_succ, i64_w, i32_w]
          rfl
        refine pure_ (i := 4) (N := some 36) (v := ?_) (a' := ?_) #[true, true, true, true, true, false, false, false, false, false, false, false, false, false] rfl rfl (any_of HT_.out (by kernel_rfl)) (fun _ _ _ h => h) (Or.inl ⟨by rfl, ?_⟩) ?_ ?_
        rotate_left
        · intro w'
          go_simp
          with_reducible rfl
        rotate_left
        · simp only [Act.put, List.setIfInBounds_toArray, List.set_cons_zero, List.set_cons_succ, i64_w, i32_w]
          rfl
        refine take_ (i := 5) (N := some 37) (v := ?_) (a' := ?_) #[true, true, true, true, true, true, false, false, false, false, false, false, false, false] rfl rfl (take_ofW HT_.out HW_.out (by kernel_rfl)) (fun _ _ _ h => h) (Or.inl ⟨by rfl, ?_⟩) hHeld ?_ ?_
        rotate_left
        · rintro w' s0
          go_simp
          with_reducible rfl
        rotate_left
        · simp only [Act.put, List.setIfInBounds_toArray, List.set_cons_zero, List.set_cons_succ, i64_w, i32_w]
          rfl
        refine pure_ (i := 7) (N := some 39) (v := ?_) (a' := ?_) #[true, true, true, true, true, true, false, true, false, false, false, false, false, false] rfl rfl (any_of HT_.out (by kernel_rfl)) (fun _ _ _ h => h) (Or.inl ⟨by rfl, ?_⟩) ?_ ?_
        rotate_left
        · intro w'
          go_simp
          with_reducible rfl
        rotate_left
        · simp only [Act.put, List.setIfInBounds_toArray, List.set_cons_zero, List.set_cons_succ, i64_w, i32_w]
          rfl
        refine join_ (σ := Value × Int × (Int × Int)) 5 #[true, true, true, true, true, true, true, true, true, false, false, false, false, false] (fun s_ => [(38, s_.1), (40, .int .i64 s_.2.1)]) (fun s_ w' => SpSt w0 w w' g gx gq code (b + 2 + 2 + 2 + 2) s_.2.2 n (Value.slice (some ⟨gr, 0, none⟩) l.length c1).ownBlock (some ⟨gr, 0, none⟩) c1 l ∧ Kd.R (Kd.int .i64) 3 w' w0.heap.size (fun _ => True) s_.1 [-2, wrap64 (n - 1), n] ∧ 0 ≤ s_.2.1 ∧ s_.2.1 < 3) ?_ ?_
        rotate_left
        · intro hCont
          refine two_ (i := 6) (j := 8) (Ni := some 38) (Nj := some 40) #[true, true, true, true, true, true, true, true, false, false, false, false, false, false] #[true, true, true, true, true, true, false, true, true, false, false, false, false, false] rfl rfl rfl rfl (two_of HT_.out (by kernel_rfl)) (by decide) (by decide) (fun K hK => ?_) (fun K hK => ?_)
          · skip
            refine Kd.R_lit_step (Kd.int .i64) (w0 := w0) w0.heap.size 3 ?hg (N := 38) ?hd (xs := [-2, wrap64 (n - 1), n]) (inner := [.int .i64 (-2), .int .i64 (wrap64 (n - 1)), .int .i64 n]) (ok := fun _ => True) (okp := fun _ => True) ?hr ?hp (fun _ hk => hk) trivial HS.out.below HS.out.below.size (by simp) ?_; (case hd => rfl); (case hg => rfl); (case hr => first | (go_simp; done) | (go_simp; rfl)); (case hp => exact (show Reps ((Kd.int .i64).M _ _ _) 1 [-2, wrap64 (n - 1), n] [.int .i64 (-2), .int .i64 (wrap64 (n - 1)), .int .i64 n] from Kd.reps_scalar (enc := Value.int .i64) [-2, wrap64 (n - 1), n]))
            intro v38 w96 ho hb hg hn
            have R38 := Aside0.mk ho
            have HS := Aside0.mk (HS.out.up (grown_up hg))
            refine hK.out _ _ HS.out.cells.1 (fun hHeld => ?_)
            clear ho hb hg hn hK K
            refine norm_ (a' := ?_) ?_ ?_
            rotate_left
            · show Act.put _ (some 38) _ = _
              simp only [Act.put, List.setIfInBounds_toArray, List.set_cons_zero, List.set_cons_succ, i64_w, i32_w]
              rfl
            refine one_ (i := 8) (N := some 40) #[true, true, true, true, true, true, true, true, true, false, false, false, false, false] rfl rfl (one_of HT_.out (by kernel_rfl)) (by decide) (fun K hK => ?_)
            refine goes_ Try.func108 (by kernel_rfl) rfl #[.pointer (some ⟨g, 0, none⟩), .int .i64 3] (by rfl) rfl rfl (by (try simp only [List.map_toArray, List.map_cons, List.map_nil]); first | done | rfl) ?_
            with_reducible refine (pick_is g w0 _ HS.out.ok (show b + 2 + 2 + 2 ≤ 2305843009213693952 by have := HBB.out; omega) (show (0 : Int) < 3 by decide) HS.out.cur HS.out.below).mono ?_
            rintro e w97 ⟨u, c5, rfl, -, u0, u1, hc, hi, hb, hk⟩
            refine ⟨_, rfl, ?_⟩
            have R38 := Aside0.mk (Kd.R_mono (Kd.R_keep (HS.out.cur.apart R38.out (by decide)) hk (fun _ x => x.2)) (fun _ _ => trivial))
            have HS := Aside0.mk (HS.out.call hc hi hb hk)
            refine hK.out _ _ HS.out.cells.1 (fun hHeld => ?_)
            clear hc hi hb hk hK K
            refine norm_ (a' := ?_) ?_ ?_
            rotate_left
            · show Act.put _ (some 40) _ = _
              simp only [Act.put, List.setIfInBounds_toArray, List.set_cons_zero, List.set_cons_succ, i64_w, i32_w]
              rfl
            exact norm_ (by simp only [putAll, Act.put, List.setIfInBounds_toArray, List.set_cons_zero, List.set_cons_succ]) (hCont (v38, u, c5) _ ⟨HS.out, R38.out, u0, u1⟩)
          · skip
            refine goes_ Try.func108 (by kernel_rfl) rfl #[.pointer (some ⟨g, 0, none⟩), .int .i64 3] (by rfl) rfl rfl (by (try simp only [List.map_toArray, List.map_cons, List.map_nil]); first | done | rfl) ?_
            with_reducible refine (pick_is g w0 _ HS.out.ok (show b + 2 + 2 + 2 ≤ 2305843009213693952 by have := HBB.out; omega) (show (0 : Int) < 3 by decide) HS.out.cur HS.out.below).mono ?_
            rintro e w97 ⟨u, c5, rfl, -, u0, u1, hc, hi, hb, hk⟩
            refine ⟨_, rfl, ?_⟩
            have HS := Aside0.mk (HS.out.call hc hi hb hk)
            refine hK.out _ _ HS.out.cells.1 (fun hHeld => ?_)
            clear hc hi hb hk hK K
            refine norm_ (a' := ?_) ?_ ?_
            rotate_left
            · show Act.put _ (some 40) _ = _
              simp only [Act.put, List.setIfInBounds_toArray, List.set_cons_zero, List.set_cons_succ, i64_w, i32_w]
              rfl
            refine one_ (i := 6) (N := some 38) #[true, true, true, true, true, true, true, true, true, false, false, false, false, false] rfl rfl (one_of HT_.out (by kernel_rfl)) (by decide) (fun K hK => ?_)
            refine Kd.R_lit_step (Kd.int .i64) (w0 := w0) w0.heap.size 3 ?hg (N := 38) ?hd (xs := [-2, wrap64 (n - 1), n]) (inner := [.int .i64 (-2), .int .i64 (wrap64 (n - 1)), .int .i64 n]) (ok := fun _ => True) (okp := fun _ => True) ?hr ?hp (fun _ hk => hk) trivial HS.out.below HS.out.below.size (by simp) ?_; (case hd => rfl); (case hg => rfl); (case hr => first | (go_simp; done) | (go_simp; rfl)); (case hp => exact (show Reps ((Kd.int .i64).M _ _ _) 1 [-2, wrap64 (n - 1), n] [.int .i64 (-2), .int .i64 (wrap64 (n - 1)), .int .i64 n] from Kd.reps_scalar (enc := Value.int .i64) [-2, wrap64 (n - 1), n]))
            intro v38 w96 ho hb hg hn
            have R38 := Aside0.mk ho
            have HS := Aside0.mk (HS.out.up (grown_up hg))
            refine hK.out _ _ HS.out.cells.1 (fun hHeld => ?_)
            clear ho hb hg hn hK K
            refine norm_ (a' := ?_) ?_ ?_
            rotate_left
            · show Act.put _ (some 38) _ = _
              simp only [Act.put, List.setIfInBounds_toArray, List.set_cons_zero, List.set_cons_succ, i64_w, i32_w]
              rfl
            exact norm_ (by simp only [putAll, Act.put, List.setIfInBounds_toArray, List.set_cons_zero, List.set_cons_succ]) (hCont (v38, u, c5) _ ⟨HS.out, R38.out, u0, u1⟩)
        rintro ⟨v38, u, c5⟩ w97 ⟨hS, hR, u0, u1⟩
        dsimp only at hS hR u0 u1
        obtain ⟨A5, k5, rfl⟩ := Kd.R_slice hR
        obtain ⟨gl, cl, e, -, -⟩ := Kd.R_form hR (by simp)
        cases e
        have yv := (Kd.R_celln (0 : Int) (show (Kd.scalar (Value.int .i64) (fun _ => rfl)).R 3 w97 w0.heap.size (fun _ => True ∧ True) (.slice (some ⟨gl, 0, none⟩) 3 k5) [-2, wrap64 (n - 1), n] from Kd.R_mono hR (fun _ _ => ⟨trivial, trivial⟩)) u u0 u1).1
        generalize rdOf (0 : Int) [-2, wrap64 (n - 1), n] u = vv at yv
        have HS := Aside0.mk hS
        obtain ⟨cs, hcl, hMc, hcc, hfr⟩ := Kd.R_elem HS.out.o z88 (m : Int) (by omega) (by have := HM.out; omega)
        obtain rfl := k88_openM hMc
        rw [Int.toNat_natCast] at hcc hfr
        have y0 : w97.cell? ⟨gr, m * 2, none⟩ = some (.int .i64 (rd_T88 l (m : Int)).f0) := hcc 0 _ rfl
        have zf : w97.frozen? ⟨gr, m * 2, none⟩ = false := hfr 0
        clear hS hR hHeld hfr hcl hMc hcc
        refine norm_ (a' := ?_) ?_ ?_
        rotate_left
        · simp only [putAll, Act.put, List.setIfInBounds_toArray, List.set_cons_zero, List.set_cons_succ]
          rfl
        refine pure_ (i := 9) (N := some 41) (v := ?_) (a' := ?_) #[true, true, true, true, true, true, true, true, true, true, false, false, false, false] rfl rfl (any_of HT_.out (by kernel_rfl)) (fun _ _ _ h => h) (Or.inl ⟨by rfl, ?_⟩) ?_ ?_
        rotate_left
        · intro w'
          go_simp
          with_reducible rfl
        rotate_left
        · simp only [Act.put, List.setIfInBounds_toArray, List.set_cons_zero, List.set_cons_succ, i64_w, i32_w]
          rfl
        refine one_ (i := 10) (N := some 42) #[true, true, true, true, true, true, true, true, true, true, true, false, false, false] rfl rfl (one_of HT_.out (by kernel_rfl)) (by decide) (fun K hK => ?_)
        refine value_ (w1 := w97) (v := .int .i64 vv) (by rfl) rfl ?_ ?_
        · go_simp
        refine hK.out _ _ HS.out.cells.1 (fun hHeld => ?_)
        clear hK K
        refine norm_ (a' := ?_) ?_ ?_
        rotate_left
        · show Act.put _ (some 42) _ = _
          simp only [Act.put, List.setIfInBounds_toArray, List.set_cons_zero, List.set_cons_succ, i64_w, i32_w]
          rfl
        refine pure_ (i := 11) (N := some 43) (v := ?_) (a' := ?_) #[true, true, true, true, true, true, true, true, true, true, true, true, false, false] rfl rfl (any_of HT_.out (by kernel_rfl)) (fun _ _ _ h => h) (Or.inl ⟨by rfl, ?_⟩) ?_ ?_
        rotate_left
        · intro w'
          go_simp
          with_reducible rfl
        rotate_left
        · simp only [Act.put, List.setIfInBounds_toArray, List.set_cons_zero, List.set_cons_succ, i64_w, i32_w]
          rfl
        refine pure_ (i := 12) (N := some 44) (v := ?_) (a' := ?_) #[true, true, true, true, true, true, true, true, true, true, true, true, true, false] rfl rfl (any_of HT_.out (by kernel_rfl)) (fun _ _ _ h => h) (Or.inl ⟨by rfl, ?_⟩) ?_ ?_
        rotate_left
        · intro w'
          go_simp
          with_reducible rfl
        rotate_left
        · simp only [Act.put, List.setIfInBounds_toArray, List.set_cons_zero, List.set_cons_succ, i64_w, i32_w]
          rfl
        refine last_ (i := 13) (N := none) #[true, true, true, true, true, true, true, true, true, true, true, true, true, true] rfl rfl (one_of HT_.out (by kernel_rfl)) (by decide) (fun K hK => ?_)
        refine skip_ (w1 := ?_) (by rfl) rfl ?_ ?_
        rotate_left
        · go_simp
          rfl
        refine hK.out _ _ ?_
        clear hK K hHeld
        refine done_ (done_of HT_.out (by kernel_rfl)) ?_
        clear HT_ HW_
        have HS := Aside0.mk (HS.out.setA (j := 0) (v := .int .i64 vv) (x' := ⟨vv, (rd_T88 l (m : Int)).f1⟩) HM.out (by decide) (fun okp => k88_mkM _ _ _ ⟨vv, (rd_T88 l (m : Int)).f1⟩) (.inl rfl))
        clear yv zf y0
        simp only [Nat.add_zero] at HS
        generalize w97.setCell ⟨gr, m * 2, none⟩ (.int .i64 vv) = w6 at HS ⊢
        have HLN := Aside0.mk (show (l.set m ⟨vv, (rd_T88 l (m : Int)).f1⟩).length = l.length from List.length_set)
        generalize l.set m ⟨vv, (rd_T88 l (m : Int)).f1⟩ = l6 at HS HLN
        obtain ⟨kx0, kx1, kq0, kq1, zx, zq⟩ := HS.out.cells
        have zq0 := zq 0
        have zq1 := zq 1
        go_wp2_with fail
        refine bodyPost_ret (results_single rfl (Vals.cell gq 30 #[.int .i64 n, .slice (some ⟨gr, 0, none⟩) l6.length c1] (0, 0) _ rfl HS.out.fin.1 Try.underlying30 rfl (by kernel_rfl) Vals.nil)) rfl ?_
        exact ⟨n, l6, _, c1, c5, rfl, by have := HL.out; have := HLN.out; omega, HS.out.ok.mono (by omega), HS.out.fin.2.1, HS.out.fin.2.2.1, HS.out.fin.2.2.2.1, HS.out.fin.2.2.2.2⟩
      · have hy0 : (z == 0) = false := by rw [h0]; rfl
        have hy1 : (z == 1) = true := by rw [h0]; rfl
        clear h0 z0 z1
        go_upto_region 9 with fail
        have HS := Aside0.mk (HS.out.up (below_drew1 (Below.refl w5.heap.size w5)))
        refine start_ (n := 14) (S := fun w' => w'.cell? ⟨gx, 0, none⟩ = some (.int .i64 n)) (ds := [13]) #[false, false, false, false, false, false, false, false, false, false, false, false, false, false] (by kernel_rfl) rfl rfl HS.out.cells.1 (fun hHeld => ?_)
        refine with_tabW so_tab9 so_bits9 (fun HT_ HW_ => ?_)
        generalize hdw : w5.drew = w95 at HS hHeld ⊢
        clear hdw
        refine pure_ (i := 0) (N := some 47) (v := ?_) (a' := ?_) #[true, false, false, false, false, false, false, false, false, false, false, false, false, false] rfl rfl (any_of HT_.out (by kernel_rfl)) (fun _ _ _ h => h) (Or.inl ⟨by rfl, ?_⟩) ?_ ?_
        rotate_left
        · intro w'
          go_simp
          with_reducible rfl
        rotate_left
        · simp only [Act.put, List.setIfInBounds_toArray, List.set_cons_zero, List.set_cons_succ, i64_w, i32_w]
          rfl
        refine pure_ (i := 1) (N := some 48) (v := ?_) (a' := ?_) #[true, true, false, false, false, false, false, false, false, false, false, false, false, false] rfl rfl (any_of HT_.out (by kernel_rfl)) (fun _ _ _ h => h) (Or.inl ⟨by rfl, ?_⟩) ?_ ?_
        rotate_left
        · intro w'
          go_simp
          with_reducible rfl
        rotate_left
        · simp only [Act.put, List.setIfInBounds_toArray, List.set_cons_zero, List.set_cons_succ, i64_w, i32_w]
          rfl
        refine take_ (i := 2) (N := some 49) (v := ?_) (a' := ?_) #[true, true, true, false, false, false, false, false, false, false, false, false, false, false] rfl rfl (take_ofW HT_.out HW_.out (by kernel_rfl)) (fun _ _ _ h => h) (Or.inl ⟨by rfl, ?_⟩) hHeld ?_ ?_
        rotate_left
        · rintro w' s0
          go_simp
          with_reducible rfl
        rotate_left
        · simp only [Act.put, List.setIfInBounds_toArray, List.set_cons_zero, List.set_cons_succ, i64_w, i32_w]
          rfl
        refine pure_ (i := 3) (N := some 50) (v := ?_) (a' := ?_) #[true, true, true, true, false, false, false, false, false, false, false, false, false, false] rfl rfl (any_of HT_.out (by kernel_rfl)) (fun _ _ _ h => h) (Or.inl ⟨by rfl, ?_⟩) ?_ ?_
        rotate_left
        · intro w'
          go_simp
          with_reducible rfl
        rotate_left
        · simp only [Act.put, List.setIfInBounds_toArray, List.set_cons_zero, List.set_cons_succ, i64_w, i32_w]
          rfl
        refine pure_ (i := 4) (N := some 51) (v := ?_) (a' := ?_) #[true, true, true, true, true, false, false, false, false, false, false, false, false, false] rfl rfl (any_of HT_.out (by kernel_rfl)) (fun _ _ _ h => h) (Or.inl ⟨by rfl, ?_⟩) ?_ ?_
        rotate_left
        · intro w'
          go_simp
          with_reducible rfl
        rotate_left
        · simp only [Act.put, List.setIfInBounds_toArray, List.set_cons_zero, List.set_cons_succ, i64_w, i32_w]
          rfl
        refine take_ (i := 5) (N := some 52) (v := ?_) (a' := ?_) #[true, true, true, true, true, true, false, false, false, false, false, false, false, false] rfl rfl (take_ofW HT_.out HW_.out (by kernel_rfl)) (fun _ _ _ h => h) (Or.inl ⟨by rfl, ?_⟩) hHeld ?_ ?_
        rotate_left
        · rintro w' s0
          go_simp
          with_reducible rfl
        rotate_left
        · simp only [Act.put, List.setIfInBounds_toArray, List.set_cons_zero, List.set_cons_succ, i64_w, i32_w]
          rfl
        refine pure_ (i := 7) (N := some 54) (v := ?_) (a' := ?_) #[true, true, true, true, true, true, false, true, false, false, false, false, false, false] rfl rfl (any_of HT_.out (by kernel_rfl)) (fun _ _ _ h => h) (Or.inl ⟨by rfl, ?_⟩) ?_ ?_
        rotate_left
        · intro w'
          go_simp
          with_reducible rfl
        rotate_left
        · simp only [Act.put, List.setIfInBounds_toArray, List.set_cons_zero, List.set_cons_succ, i64_w, i32_w]
          rfl
        refine join_ (σ := Value × Int × (Int × Int)) 5 #[true, true, true, true, true, true, true, true, true, false, false, false, false, false] (fun s_ => [(53, s_.1), (55, .int .i64 s_.2.1)]) (fun s_ w' => SpSt w0 w w' g gx gq code (b + 2 + 2 + 2 + 2) s_.2.2 n (Value.slice (some ⟨gr, 0, none⟩) l.length c1).ownBlock (some ⟨gr, 0, none⟩) c1 l ∧ Kd.R (Kd.int .i64) 3 w' w0.heap.size (fun _ => True) s_.1 [-2, wrap64 (n - 1), n] ∧ 0 ≤ s_.2.1 ∧ s_.2.1 < 3) ?_ ?_
        rotate_left
        · intro hCont
          refine two_ (i := 6) (j := 8) (Ni := some 53) (Nj := some 55) #[true, true, true, true, true, true, true, true, false, false, false, false, false, false] #[true, true, true, true, true, true, false, true, true, false, false, false, false, false] rfl rfl rfl rfl (two_of HT_.out (by kernel_rfl)) (by decide) (by decide) (fun K hK => ?_) (fun K hK => ?_)
          · skip
            refine Kd.R_lit_step (Kd.int .i64) (w0 := w0) w0.heap.size 3 ?hg (N := 53) ?hd (xs := [-2, wrap64 (n - 1), n]) (inner := [.int .i64 (-2), .int .i64 (wrap64 (n - 1)), .int .i64 n]) (ok := fun _ => True) (okp := fun _ => True) ?hr ?hp (fun _ hk => hk) trivial HS.out.below HS.out.below.size (by simp) ?_; (case hd => rfl); (case hg => rfl); (case hr => first | (go_simp; done) | (go_simp; rfl)); (case hp => exact (show Reps ((Kd.int .i64).M _ _ _) 1 [-2, wrap64 (n - 1), n] [.int .i64 (-2), .int .i64 (wrap64 (n - 1)), .int .i64 n] from Kd.reps_scalar (enc := Value.int .i64) [-2, wrap64 (n - 1), n]))
            intro v38 w96 ho hb hg hn
            have R38 := Aside0.mk ho
            have HS := Aside0.mk (HS.out.up (grown_up hg))
            refine hK.out _ _ HS.out.cells.1 (fun hHeld => ?_)
            clear ho hb hg hn hK K
            refine norm_ (a' := ?_) ?_ ?_
            rotate_left
            · show Act.put _ (some 53) _ = _
              simp only [Act.put, List.setIfInBounds_toArray, List.set_cons_zero, List.set_cons_succ, i64_w, i32_w]
              rfl
            refine one_ (i := 8) (N := some 55) #[true, true, true, true, true, true, true, true, true, false, false, false, false, false] rfl rfl (one_of HT_.out (by kernel_rfl)) (by decide) (fun K hK => ?_)
            refine goes_ Try.func108 (by kernel_rfl) rfl #[.pointer (some ⟨g, 0, none⟩), .int .i64 3] (by rfl) rfl rfl (by (try simp only [List.map_toArray, List.map_cons, List.map_nil]); first | done | rfl) ?_
            with_reducible refine (pick_is g w0 _ HS.out.ok (show b + 2 + 2 + 2 ≤ 2305843009213693952 by have := HBB.out; omega) (show (0 : Int) < 3 by decide) HS.out.cur HS.out.below).mono ?_
            rintro e w97 ⟨u, c5, rfl, -, u0, u1, hc, hi, hb, hk⟩
            refine ⟨_, rfl, ?_⟩
            have R38 := Aside0.mk (Kd.R_mono (Kd.R_keep (HS.out.cur.apart R38.out (by decide)) hk (fun _ x => x.2)) (fun _ _ => trivial))
            have HS := Aside0.mk (HS.out.call hc hi hb hk)
            refine hK.out _ _ HS.out.cells.1 (fun hHeld => ?_)
            clear hc hi hb hk hK K
            refine norm_ (a' := ?_) ?_ ?_
            rotate_left
            · show Act.put _ (some 55) _ = _
              simp only [Act.put, List.setIfInBounds_toArray, List.set_cons_zero, List.set_cons_succ, i64_w, i32_w]
              rfl
            exact norm_ (by simp only [putAll, Act.put, List.setIfInBounds_toArray, List.set_cons_zero, List.set_cons_succ]) (hCont (v38, u, c5) _ ⟨HS.out, R38.out, u0, u1⟩)
          · skip
            refine goes_ Try.func108 (by kernel_rfl) rfl #[.pointer (some ⟨g, 0, none⟩), .int .i64 3] (by rfl) rfl rfl (by (try simp only [List.map_toArray, List.map_cons, List.map_nil]); first | done | rfl) ?_
            with_reducible refine (pick_is g w0 _ HS.out.ok (show b + 2 + 2 + 2 ≤ 2305843009213693952 by have := HBB.out; omega) (show (0 : Int) < 3 by decide) HS.out.cur HS.out.below).mono ?_
            rintro e w97 ⟨u, c5, rfl, -, u0, u1, hc, hi, hb, hk⟩
            refine ⟨_, rfl, ?_⟩
            have HS := Aside0.mk (HS.out.call hc hi hb hk)
            refine hK.out _ _ HS.out.cells.1 (fun hHeld => ?_)
            clear hc hi hb hk hK K
            refine norm_ (a' := ?_) ?_ ?_
            rotate_left
            · show Act.put _ (some 55) _ = _
              simp only [Act.put, List.setIfInBounds_toArray, List.set_cons_zero, List.set_cons_succ, i64_w, i32_w]
              rfl
            refine one_ (i := 6) (N := some 53) #[true, true, true, true, true, true, true, true, true, false, false, false, false, false] rfl rfl (one_of HT_.out (by kernel_rfl)) (by decide) (fun K hK => ?_)
            refine Kd.R_lit_step (Kd.int .i64) (w0 := w0) w0.heap.size 3 ?hg (N := 53) ?hd (xs := [-2, wrap64 (n - 1), n]) (inner := [.int .i64 (-2), .int .i64 (wrap64 (n - 1)), .int .i64 n]) (ok := fun _ => True) (okp := fun _ => True) ?hr ?hp (fun _ hk => hk) trivial HS.out.below HS.out.below.size (by simp) ?_; (case hd => rfl); (case hg => rfl); (case hr => first | (go_simp; done) | (go_simp; rfl)); (case hp => exact (show Reps ((Kd.int .i64).M _ _ _) 1 [-2, wrap64 (n - 1), n] [.int .i64 (-2), .int .i64 (wrap64 (n - 1)), .int .i64 n] from Kd.reps_scalar (enc := Value.int .i64) [-2, wrap64 (n - 1), n]))
            intro v38 w96 ho hb hg hn
            have R38 := Aside0.mk ho
            have HS := Aside0.mk (HS.out.up (grown_up hg))
            refine hK.out _ _ HS.out.cells.1 (fun hHeld => ?_)
            clear ho hb hg hn hK K
            refine norm_ (a' := ?_) ?_ ?_
            rotate_left
            · show Act.put _ (some 53) _ = _
              simp only [Act.put, List.setIfInBounds_toArray, List.set_cons_zero, List.set_cons_succ, i64_w, i32_w]
              rfl
            exact norm_ (by simp only [putAll, Act.put, List.setIfInBounds_toArray, List.set_cons_zero, List.set_cons_succ]) (hCont (v38, u, c5) _ ⟨HS.out, R38.out, u0, u1⟩)
        rintro ⟨v38, u, c5⟩ w97 ⟨hS, hR, u0, u1⟩
        dsimp only at hS hR u0 u1
        obtain ⟨A5, k5, rfl⟩ := Kd.R_slice hR
        obtain ⟨gl, cl, e, -, -⟩ := Kd.R_form hR (by simp)
        cases e
        have yv := (Kd.R_celln (0 : Int) (show (Kd.scalar (Value.int .i64) (fun _ => rfl)).R 3 w97 w0.heap.size (fun _ => True ∧ True) (.slice (some ⟨gl, 0, none⟩) 3 k5) [-2, wrap64 (n - 1), n] from Kd.R_mono hR (fun _ _ => ⟨trivial, trivial⟩)) u u0 u1).1
        generalize rdOf (0 : Int) [-2, wrap64 (n - 1), n] u = vv at yv
        have HS := Aside0.mk hS
        obtain ⟨cs, hcl, hMc, hcc, hfr⟩ := Kd.R_elem HS.out.o z88 (m : Int) (by omega) (by have := HM.out; omega)
        obtain rfl := k88_openM hMc
        rw [Int.toNat_natCast] at hcc hfr
        have y0 : w97.cell? ⟨gr, m * 2 + 1, none⟩ = some (.int .i64 (rd_T88 l (m : Int)).f1) := hcc 1 _ rfl
        have zf : w97.frozen? ⟨gr, m * 2 + 1, none⟩ = false := hfr 1
        clear hS hR hHeld hfr hcl hMc hcc
        refine norm_ (a' := ?_) ?_ ?_
        rotate_left
        · simp only [putAll, Act.put, List.setIfInBounds_toArray, List.set_cons_zero, List.set_cons_succ]
          rfl
        refine pure_ (i := 9) (N := some 56) (v := ?_) (a' := ?_) #[true, true, true, true, true, true, true, true, true, true, false, false, false, false] rfl rfl (any_of HT_.out (by kernel_rfl)) (fun _ _ _ h => h) (Or.inl ⟨by rfl, ?_⟩) ?_ ?_
        rotate_left
        · intro w'
          go_simp
          with_reducible rfl
        rotate_left
        · simp only [Act.put, List.setIfInBounds_toArray, List.set_cons_zero, List.set_cons_succ, i64_w, i32_w]
          rfl
        refine one_ (i := 10) (N := some 57) #[true, true, true, true, true, true, true, true, true, true, true, false, false, false] rfl rfl (one_of HT_.out (by kernel_rfl)) (by decide) (fun K hK => ?_)
        refine value_ (w1 := w97) (v := .int .i64 vv) (by rfl) rfl ?_ ?_
        · go_simp
        refine hK.out _ _ HS.out.cells.1 (fun hHeld => ?_)
        clear hK K
        refine norm_ (a' := ?_) ?_ ?_
        rotate_left
        · show Act.put _ (some 57) _ = _
          simp only [Act.put, List.setIfInBounds_toArray, List.set_cons_zero, List.set_cons_succ, i64_w, i32_w]
          rfl
        refine pure_ (i := 11) (N := some 58) (v := ?_) (a' := ?_) #[true, true, true, true, true, true, true, true, true, true, true, true, false, false] rfl rfl (any_of HT_.out (by kernel_rfl)) (fun _ _ _ h => h) (Or.inl ⟨by rfl, ?_⟩) ?_ ?_
        rotate_left
        · intro w'
          go_simp
          with_reducible rfl
        rotate_left
        · simp only [Act.put, List.setIfInBounds_toArray, List.set_cons_zero, List.set_cons_succ, i64_w, i32_w]
          rfl
        refine pure_ (i := 12) (N := some 59) (v := ?_) (a' := ?_) #[true, true, true, true, true, true, true, true, true, true, true, true, true, false] rfl rfl (any_of HT_.out (by kernel_rfl)) (fun _ _ _ h => h) (Or.inl ⟨by rfl, ?_⟩) ?_ ?_
        rotate_left
        · intro w'
          go_simp
          with_reducible rfl
        rotate_left
        · simp only [Act.put, List.setIfInBounds_toArray, List.set_cons_zero, List.set_cons_succ, i64_w, i32_w]
          rfl
        refine last_ (i := 13) (N := none) #[true, true, true, true, true, true, true, true, true, true, true, true, true, true] rfl rfl (one_of HT_.out (by kernel_rfl)) (by decide) (fun K hK => ?_)
        refine skip_ (w1 := ?_) (by rfl) rfl ?_ ?_
        rotate_left
        · go_simp
          rfl
        refine hK.out _ _ ?_
        clear hK K hHeld
        refine done_ (done_of HT_.out (by kernel_rfl)) ?_
        clear HT_ HW_
        have HS := Aside0.mk (HS.out.setA (j := 1) (v := .int .i64 vv) (x' := ⟨(rd_T88 l (m : Int)).f0, vv⟩) HM.out (by decide) (fun okp => k88_mkM _ _ _ ⟨(rd_T88 l (m : Int)).f0, vv⟩) (.inl rfl))
        clear yv zf y0
        generalize w97.setCell ⟨gr, m * 2 + 1, none⟩ (.int .i64 vv) = w6 at HS ⊢
        have HLN := Aside0.mk (show (l.set m ⟨(rd_T88 l (m : Int)).f0, vv⟩).length = l.length from List.length_set)
        generalize l.set m ⟨(rd_T88 l (m : Int)).f0, vv⟩ = l6 at HS HLN
        obtain ⟨kx0, kx1, kq0, kq1, zx, zq⟩ := HS.out.cells
        have zq0 := zq 0
        have zq1 := zq 1
        go_wp2_with fail
        refine bodyPost_ret (results_single rfl (Vals.cell gq 30 #[.int .i64 n, .slice (some ⟨gr, 0, none⟩) l6.length c1] (0, 0) _ rfl HS.out.fin.1 Try.underlying30 rfl (by kernel_rfl) Vals.nil)) rfl ?_
        exact ⟨n, l6, _, c1, c5, rfl, by have := HL.out; have := HLN.out; omega, HS.out.ok.mono (by omega), HS.out.fin.2.1, HS.out.fin.2.2.1, HS.out.fin.2.2.2.1, HS.out.fin.2.2.2.2⟩
      · have hy0 : (z == 0) = false := by simp [h0]
        have hy1 : (z == 1) = false := by simp [h1]
        clear h0 h1 z0 z1
        obtain ⟨cs, hcl, hMc, hcc, hfr⟩ := Kd.R_elem HS.out.o z88 (m : Int) (by omega) (by have := HM.out; omega)
        obtain rfl := k88_openM hMc
        rw [Int.toNat_natCast] at hcc hfr
        have y0 : w5.cell? ⟨gr, m * 2, none⟩ = some (.int .i64 (rd_T88 l (m : Int)).f0) := hcc 0 _ rfl
        have y1 : w5.cell? ⟨gr, m * 2 + 1, none⟩ = some (.int .i64 (rd_T88 l (m : Int)).f1) := hcc 1 _ rfl
        have zf : w5.frozen? ⟨gr, m * 2 + 1, none⟩ = false := hfr 1
        clear hcl hMc hcc hfr
        obtain ⟨f, hf⟩ : ∃ f, f = (rd_T88 l (m : Int)).f0 := ⟨_, rfl⟩
        rw [← hf] at y0
        have HF := Aside0.mk hf
        clear hf
        go_upto_region 19 with fail
        have HS := Aside0.mk (HS.out.setA (j := 1) (v := .int .i64 f) (x' := ⟨f, f⟩) HM.out (by decide) (fun okp => by rw [← HF.out]; exact k88_mkM _ _ _ ⟨f, f⟩) (.inl rfl))
        clear y0 y1 zf
        generalize w5.setCell ⟨gr, m * 2 + 1, none⟩ (.int .i64 f) = w6 at HS ⊢
        have HLN := Aside0.mk (show (l.set m ⟨f, f⟩).length = l.length from List.length_set)
        generalize l.set m ⟨f, f⟩ = l6 at HS HLN
        obtain ⟨kx0, kx1, kq0, kq1, zx, zq⟩ := HS.out.cells
        have zq0 := zq 0
        have zq1 := zq 1
        go_wp2_with fail
        refine bodyPost_ret (results_single rfl (Vals.cell gq 30 #[.int .i64 n, .slice (some ⟨gr, 0, none⟩) l6.length c1] (0, 0) _ rfl HS.out.fin.1 Try.underlying30 rfl (by kernel_rfl) Vals.nil)) rfl ?_
        exact ⟨n, l6, _, c1, c4, rfl, by have := HL.out; have := HLN.out; omega, HS.out.ok.mono (by omega), HS.out.fin.2.1, HS.out.fin.2.2.1, HS.out.fin.2.2.2.1, HS.out.fin.2.2.2.2⟩
    · have hp' : decide ((0 : Int) < (l.length : Int)) = false := decide_eq_false (by omega)
      have hnil : l = [] := List.eq_nil_of_length_eq_zero (by omega)
      obtain ⟨kx0, -, kq0, kq1, zx, zq⟩ := HS.out.cells
      have zq0 := zq 0
      have zq1 := zq 1
      have HN := Aside0.mk hnil
      subst hnil
      go_wp2_with fail
      refine bodyPost_ret (results_single rfl (Vals.cell gq 30 #[.int .i64 n, .slice A1 0 c1] (0, 0) _ rfl HS.out.fin.1 Try.underlying30 rfl (by kernel_rfl) Vals.nil)) rfl ?_
      exact ⟨n, [], A1, c1, c2, rfl, by simp, HS.out.ok.mono (by omega), HS.out.fin.2.1, HS.out.fin.2.2.1, HS.out.fin.2.2.2.1, HS.out.fin.2.2.2.2⟩
end Go.Proofs.Ytpdnabhpkdchjaa.P
namespace Go.Proofs.Ytpdnabhpkdchjaa.P
open Go Go.RowKit Go.Proofs.YtpdnabhpkdchjaaW.PrintWords Go.Proofs.YtpdnabhpkdchjaaW.PrintLast Go.Proofs.YtpdnabhpkdchjaaW.PrintMore
set_option linter.unusedVariables false
set_option linter.unusedSimpArgs false
theorem box2d {w : World} {g : Nat} {a b : Value} {t : TypeId} (h : w.heap[g]? = some (.cells #[a, b] t (0, 0))) : w.cell? ⟨g, 0, none⟩ = some a ∧ w.cell? ⟨g, 1, none⟩ = some b  := by
  have h0 := blk_cell h 0
  have h1 := blk_cell h 1
  exact ⟨h0, h1⟩
theorem DrSt.put {w W W' : World} {gr gl gc c1 d2 : Nat} {code : List Int} {c c2 : Int × Int} {n n2 : Int} {A1 A2 : Option Addr} {l l2 : List S88} (h : DrSt w W gr gl gc code c n A1 c1 l) (hg : w.heap.size ≤ gl) (cur : IsS116 w W' gc code c2.1 c2.2) (below : Below w.heap.size w W')
    (hR : Kd.R k88 88 W' w.heap.size (fun _ => True) (.slice A2 l2.length d2) l2) (keep : KeepBut W W' gc (Value.slice A1 l.length c1).ownBlock) : DrSt w ((W'.setCell ⟨gl, 0, none⟩ (.int .i64 n2)).setCell ⟨gl, 1, none⟩ (.slice A2 l2.length d2)) gr gl gc code c2 n2 A2 d2 l2 := by
  have hl := keep.blk h.lay (fun e => h.cur.ne_blk h.lay (by decide) e.symm) (fun e => Kd.R_ne h.o h.lay (by decide) e)
  have hr := keep.blk h.res (fun e => h.cur.ne_blk h.res (by decide) e.symm) (fun e => Kd.R_ne h.o h.res (by decide) e)
  have ng := cur.ne_blk hl (by decide)
  have l1 := blk_put hl 0 (.int .i64 n2) rfl
  exact {
    cur := (cur.far (p := ⟨gl, 0, none⟩) ng _).far (p := ⟨gl, 1, none⟩) ng _
    below := below_set (j := 1) (below_set (j := 0) below hg) hg
    res := blk_far (blk_far hr (fun e => h.ne e.symm) _) (fun e => h.ne e.symm) _
    lay := blk_put l1 1 (.slice A2 l2.length d2) rfl
    gre := h.gre
    ne := h.ne
    o := Kd.R_set (Kd.R_set hR hl (by decide) 0 _) l1 (by decide) 1 _ }
set_option maxHeartbeats 16000000 in
set_option maxRecDepth 100000 in
theorem draw53_is {code : List Int} (hby : ∀ x ∈ code, 0 ≤ x ∧ x < 256) (A : Option Addr) (cap : Nat) (w : World) (hA : Kd.C (Kd.int .u8) w A code.length code) :
    Calls Try.prog 53 #[.slice A code.length cap] w fun e w1 => ∃ (n : Int) (l : List S88) (A1 : Option Addr) (c1 : Nat), e = .returned (.agg #[.int .i64 n, .slice A1 l.length c1]) ∧ Kd.R k88 88 w1 w.heap.size (fun _ => True) (.slice A1 l.length c1) l ∧ Below w.heap.size w w1 := by
  obtain ⟨k, n, l, c', hlay, n0, n1, hll, hlo, hc'⟩ := layD (b := 0) (c := (0, 0)) ⟨hby, Int.le_refl _, Int.le_refl _⟩ (by decide)
  have HA := Aside0.mk hA
  have HLAY := Aside0.mk hlay
  have HLL := Aside0.mk hll
  have HC := Aside0.mk hc'
  clear hA hlay hlo hll hc' n0 n1 hby
  go_enter Try.func53, Try.ntmps53
  go_upto_region 1 with ((with_reducible refine gate_dst (N := 2) rfl ?_); refine box_event ?hg (N := 2) ?hd (cs := #[.int .i64 0, .slice none 0 0]) (t := 30) ?hr ?_; (case hd => rfl); (case hg => rfl); (case hr => first | (go_simp; done) | (go_simp; rfl)); intro gr er wr kr br; have ER := Aside0.mk er; have KR := Aside0.mk kr; have BR := Aside0.mk br; clear er kr br; have kr0 : wr.cell? ⟨gr, 0, none⟩ = some (.int .i64 0) := (blk_cell KR.out 0).trans rfl; have zkr0 := blk_frozen KR.out 0; have kr1 : wr.cell? ⟨gr, 1, none⟩ = some (.slice none 0 0) := (blk_cell KR.out 1).trans rfl; have zkr1 := blk_frozen KR.out 1)
  clear kr0 zkr0 kr1 zkr1
  go_upto_region 2 with ((with_reducible refine gate_dst (N := 8) rfl ?_); refine box_event ?hg (N := 8) ?hd (cs := #[.slice A code.length cap, .int .i64 0, .int .u64 0]) (t := 116) ?hr ?_; (case hd => rfl); (case hg => rfl); (case hr => first | (go_simp; done) | (go_simp; rfl)); intro gc ec wc kc bc; have EC := Aside0.mk ec; have KC := Aside0.mk kc; have BC := Aside0.mk bc; clear ec kc bc; have kc0 : wc.cell? ⟨gc, 0, none⟩ = some (.slice A code.length cap) := (blk_cell KC.out 0).trans rfl; have zkc0 := blk_frozen KC.out 0; have kc1 : wc.cell? ⟨gc, 1, none⟩ = some (.int .i64 0) := (blk_cell KC.out 1).trans rfl; have zkc1 := blk_frozen KC.out 1; have kc2 : wc.cell? ⟨gc, 2, none⟩ = some (.int .u64 0) := (blk_cell KC.out 2).trans rfl; have zkc2 := blk_frozen KC.out 2)
  clear kc0 zkc0 kc1 zkc1 kc2 zkc2
  have HI := Aside0.mk (show IsS116 w wc gc code 0 0 from ⟨A, cap, KC.out, Nat.le_trans BR.out.size (Nat.le_of_eq EC.out.symm), HA.out⟩)
  have GR := Aside0.mk (Nat.le_of_eq ER.out.symm)
  have KR := Aside0.mk (blk_below KR.out BC.out)
  have BC := Aside0.mk (below_step BR.out BC.out)
  clear BR KC EC ER
  go_upto_region 3 with (first | (go_at_call 91; refine (spec_l5Cur_layout.calls k gc code 0 0 n l c'.1 c'.2 w _ HI.out BC.out HLAY.out).mono ?_; rintro e w1 ⟨v1, rfl, ho, hi, hb, hk⟩; obtain ⟨A1, c1, rfl⟩ := Kd.R_slice ho; have HI0 := HI; have HO := Aside0.mk (Kd.R_lower ho BC.out.size); have KR := Aside0.mk (hk.blk KR.out (fun e => HI0.out.ne_blk KR.out (by decide) e.symm) (by simp)); have BC := Aside0.mk hb; have HI := Aside0.mk hi; clear ho hi hb hk HI0) | ((with_reducible refine gate_dst (N := 4) rfl ?_); refine box_event ?hg (N := 4) ?hd (cs := #[.int .i64 0, .slice none 0 0]) (t := 30) ?hr ?_; (case hd => rfl); (case hg => rfl); (case hr => first | (go_simp; done) | (go_simp; rfl)); intro gl el wl kl bl; have EL := Aside0.mk el; have KL := Aside0.mk kl; have BL := Aside0.mk bl; clear el kl bl; have kl0 : wl.cell? ⟨gl, 0, none⟩ = some (.int .i64 0) := (blk_cell KL.out 0).trans rfl; have zkl0 := blk_frozen KL.out 0; have kl1 : wl.cell? ⟨gl, 1, none⟩ = some (.slice none 0 0) := (blk_cell KL.out 1).trans rfl; have zkl1 := blk_frozen KL.out 1))
  have NE := Aside0.mk (show gl ≠ gr from fun e => by have h := blk_lt KR.out; have := EL.out; omega)
  have GL := Aside0.mk (show w.heap.size ≤ gl from Nat.le_trans BC.out.size (Nat.le_of_eq EL.out.symm))
  have FX := Aside0.mk (fill2m (y0 := .int .i64 n) (y1 := .slice A1 l.length c1) KL.out BL.out (Nat.le_of_eq EL.out.symm))
  clear kl0 zkl0 kl1 zkl1 KL BL EL
  generalize ((wl.setCell ⟨gl, 0, none⟩ (.int .i64 n)).setCell ⟨gl, 1, none⟩ (.slice A1 l.length c1)) = w2 at FX ⊢
  have HS := Aside0.mk (DrSt.mk (W := w2) (gr := gr) (gl := gl) (gc := gc) (code := code) (c := c') (n := n) (A1 := A1) (c1 := c1) (l := l) (HI.out.below FX.out.1) (below_step BC.out FX.out.1) (blk_below KR.out FX.out.1) FX.out.2 GR.out NE.out (Kd.R_below HO.out FX.out.1))
  clear HI BC KR FX HO
  have HC2 := Aside0.mk (HC.out.mono (b' := 100) (by decide))
  go_wp2_with (go_at_call 108; refine (pick_is gc w _ HC2.out (by decide) (by decide) HS.out.cur HS.out.below).mono ?_; rintro e w3 ⟨v, c2, rfl, -, v0, v1, hc, hi, hb, hk⟩; have HS := Aside0.mk (HS.out.call hi hb hk); have HC := Aside0.mk hc; clear hi hb hk hc)
  obtain ⟨k0, hk0⟩ : ∃ k0 : Nat, (k0 : Int) = v := ⟨v.toNat, by omega⟩
  have HK0 := Aside0.mk (show k0 ≤ 2 by omega)
  subst hk0
  clear v0 v1
  go_loopg [5] k0 (fun kq v5 w' => ∃ (k : Nat) (n : Int) (l : List S88) (A1 : Option Addr) (c1 : Nat) (c : Int × Int), v5 = .int .i64 k ∧ Aside0 (k = kq ∧ k ≤ 2) ∧ Aside0 (CurOk code (200 - 8 * (k : Int)) c) ∧ Aside0 (l.length ≤ 121) ∧ Aside0 (DrSt w w' gr gl gc code c n A1 c1 l))
  case atStart => exact ⟨k0, n, l, A1, c1, c2, rfl, ⟨rfl, HK0.out⟩, ⟨HC.out.mono (by have := HK0.out; omega)⟩, ⟨by have := HLL.out; omega⟩, HS⟩
  case round =>
    clear HS HC HC2 HLL HLAY
    obtain ⟨k, n, l, A1, c1, c, rfl, KQ, HC, HLL, HS⟩ := hrel
    have kl0 := (box2d HS.out.lay).1
    have kl1 := (box2d HS.out.lay).2
    by_cases hlt : 0 < k
    · obtain ⟨j, rfl⟩ : ∃ j, k = j + 1 := ⟨k - 1, by omega⟩
      obtain ⟨go1, rfl⟩ : ∃ g, gk = g + 1 := ⟨j, KQ.out.1.symm⟩
      have hlt' : decide ((0 : Int) < ((j + 1 : Nat) : Int)) = true := decide_eq_true (by omega)
      have W4 := Aside0.mk (show wrap64 (((j + 1 : Nat) : Int) - 1) = (j : Int) from (wrap_id (by omega) (by have := KQ.out.2; omega)).trans (by omega))
      obtain ⟨k1, hk1⟩ : ∃ k1 : Int, k1 = ((j + 1 : Nat) : Int) := ⟨_, rfl⟩
      rw [← hk1] at hlt' W4 HC ⊢
      have HK1 := Aside0.mk hk1
      clear hlt hk1
      go_upto_region 5 with (go_at_call 109; refine (spoil_is gc n A1 c1 l w wr HC.out (by have := HK1.out; omega) HS.out.cur HS.out.below HS.out.o HLL.out).mono ?_; rintro e w4 ⟨n2, l2, A2, d2, c3, rfl, q1, q2, q3, q4, q5, q6⟩; have hl := q6.blk HS.out.lay (fun e => HS.out.cur.ne_blk HS.out.lay (by decide) e.symm) (fun e => Kd.R_ne HS.out.o HS.out.lay (by decide) e); have HP := Aside0.mk (HS.out.put (n2 := n2) GL.out q3 q4 q5 q6); have HLL := Aside0.mk q1; have HC := Aside0.mk q2; clear kl0 kl1; have kl0 := (box2d hl).1; have kl1 := (box2d hl).2; have zl0 := blk_frozen hl 0; have zl1 := blk_frozen hl 1; clear q1 q2 q3 q4 q5 q6 hl)
      go_wp2_with fail
      go_roundg go1
      case measure => omega
      case rel => exact ⟨j, n2, l2, A2, d2, c3, congrArg (Value.int .i64) W4.out, ⟨by have := KQ.out; omega, by have := KQ.out; omega⟩, ⟨HC.out.mono (by have := HK1.out; omega)⟩, HLL, HP⟩
    · have hlt' : decide ((0 : Int) < (k : Int)) = false := decide_eq_false (by omega)
      have kr0 := (box2d HS.out.res).1
      have kr1 := (box2d HS.out.res).2
      have zr0 := blk_frozen HS.out.res 0
      have zr1 := blk_frozen HS.out.res 1
      go_wp2_with fail
      refine bodyPost_ret (results_single rfl (Vals.cell gr 30 #[.int .i64 n, .slice A1 l.length c1] (0, 0) _ rfl HS.out.fin Try.underlying30 rfl (by kernel_rfl) Vals.nil)) rfl ?_
      exact ⟨n, l, A1, c1, rfl, HS.out.finR HS.out.o (by decide), HS.out.finB⟩
end Go.Proofs.Ytpdnabhpkdchjaa.P
namespace Go.Proofs.Ytpdnabhpkdchjaa.fnSpoilt
open Go.ChangeShapes Go.WideShapes Go.ChangeAt Go.RowKit Go.Proofs.Ytpdnabhpkdchjaa.Open Go.Proofs.Ytpdnabhpkdchjaa.P
set_option linter.unusedVariables false
set_option maxRecDepth 100000 in
theorem lifted (os : Os) (started : os.Started) (H : Type) (enc : TypeId × Value → H) :
    ReturnsInHanded {} Try.checked os 10 .any (Rows.fnSpoiltSpec.pre6 enc Try.prog Try.f10 Rows.fnSpoiltRow.domain false) (Rows.fnSpoiltSpec.post enc Try.prog Try.f10 false true false false) := by
  refine returnsInHanded_of_change_sized (C := Try.checked) Facts.own started (by kernel_rfl) Try.func10
    (ChangeSpec.witness6 (enc := enc) (C := Try.checked) false ⟨#[], #[.slice none 0 0], []⟩ 8 (by kernel_rfl) (by kernel_rfl) (by kernel_rfl) (by kernel_rfl)) ?_
  intro W base args ds gs before hval0 hW hcnd hsz0 _
  have hval : ∀ (j : Nat) t v, Try.f10.params[j]? = some t → args[j]? = some v → Value.okWide Try.prog W .any base t v := hval0
  have hW' := hW
  obtain ⟨p, q, hA0, hV, rfl, hfz, hnd⟩ := hW
  have hA : DataW.TrodAll enc Try.prog W 0 (fun _ => true) true Try.f10.params.toList args.toList ds p := hA0
  rw [Try.params10] at hA hval
  obtain ⟨v0, vs0, d0, ds0, p0, q0, hargs, rfl, rfl, h0, r0⟩ := trodAll_cons hA
  obtain ⟨rfl, rfl, rfl⟩ := trodAll_nil r0
  obtain rfl : args = #[v0] := by cases args; simp_all
  obtain ⟨rfl, rfl⟩ := trodVars_none hV
  have k0 := h0
  have lt0 : ∀ x ∈ p0, x.block < W.heap.size := by obtain ⟨m, hm⟩ := k0; exact DataW.trod_lt m _ _ _ hm
  obtain ⟨A0, c0, l0, rfl, hr0, hc0, hb0⟩ := arg_bytes (hval 0 34 v0 rfl rfl) h0
  clear hA0 hval0 hsz0
  refine (WalkFnSpoilt.walk A0 c0 l0 W hr0 hc0 hb0 (draw53_is hb0 A0 c0 W hr0)).mono fun e W' ⟨he, bel⟩ => ?_
  subst he
  exact ⟨_, rfl, _, _, _, [], _, [], hW', trodAll_mk1 (shut_bool Try.underlying4 _), (trodAll_cons_mk (Below.trod Facts.laidOut (by kernel_rfl) (of_decide_eq_true (by kernel_rfl)) k0 bel lt0) trodAll_mk0), rfl, bel.frame _, fun h => by cases h⟩
theorem k10 : (Rows.fnSpoiltRow.inPlace == Try.prog.inPlace 10) = true := by kernel_rfl
theorem k11 : (Rows.fnSpoiltRow.unfollowed == Try.prog.unfollowed 10) = true := by kernel_rfl
theorem k12 : (Rows.fnSpoiltRow.recurses == Try.prog.recurses 10) = true := by kernel_rfl
theorem k13 : (Rows.fnSpoiltRow.named == Try.prog.varsNamed 10) = true := by kernel_rfl
theorem over : Rows.fnSpoiltRow.holds Try.pinned (OpenSpec.ofChange Rows.fnSpoiltSpec) :=
  OpenClaim.holds_of_wide 10 Try.f10 rfl rfl rfl rfl rfl rfl rfl ⟨rfl, rfl, rfl, rfl, rfl⟩ rfl rfl rfl rfl rfl (by kernel_rfl) Try.func10
    (joined_of 10 Try.f10 Rows.fnSpoiltSpec Rows.fnSpoiltRow (by kernel_rfl) (by kernel_rfl) (by kernel_rfl) rfl rfl Facts.stopKnobs k10 k11 k12 k13 (by kernel_rfl) (by kernel_rfl) (by kernel_rfl) (by kernel_rfl) (by kernel_rfl) (by kernel_rfl) (by kernel_rfl) (by kernel_rfl) (by kernel_rfl) rfl rfl rfl rfl rfl rfl (by kernel_rfl) (by kernel_rfl) (by kernel_rfl))
    (of_decide_eq_true (by kernel_rfl)) (by unfold Func.isWrapper; rw [if_neg (by decide +kernel)]; exact ⟨rfl, rfl⟩)
    (fun os started H enc _ => lifted os started H enc)
theorem proved : Rows.FnSpoiltSaid := over
end Go.Proofs.Ytpdnabhpkdchjaa.fnSpoilt
namespace Go.Proofs.Ytpdnabhpkdchjaa
theorem fnSpoilt_holds : Rows.FnSpoiltSaid := fnSpoilt.proved
#print axioms fnSpoilt_holds
end Go.Proofs.Ytpdnabhpkdchjaa
