/- The statement FnSwap holds of the given program, for every argument; there are no conditions. (Part 3 of 6.) -/
import Derived.Test.YtpdnabhpkdchjaaBFnSwap2
namespace Go.Proofs.Ytpdnabhpkdchjaa.P
open Go.RowKit Go.Proofs.YtpdnabhpkdchjaaW.PrintWords Go.Proofs.YtpdnabhpkdchjaaW.PrintLast Go.Proofs.YtpdnabhpkdchjaaW.PrintMore
attribute [local go_sem] max2_int min2_int max_two min_two max_three min_three max_four min_four
set_option linter.unusedVariables false
set_option linter.unusedSimpArgs false
mutual
def spec_l5Cur_layout.l0:Nat→Int→List Int→Int→Int→Int→List (S88)→Option (Int × (List (S88)) × Int × Int)
 | 0,_,_,_,_,_,_=>none
 | k+1,x4,x1000,x1001,x1002,x164000,x164001=>if x4≤x164000 then (if x4=x164000 then ((spec_l5Cur_pick.f x1000 x1001 x1002 12).bind fun bt165=>(if bt165.1 > 0 then (if x164001.length<8796093022208 then (spec_l5Cur_layout.l0 k (wrap64 (x4+1)) x1000 bt165.2.1 bt165.2.2 x164000 (x164001 ++ [(⟨wrap64 (x4 - 1),(-1)⟩:S88)])) else (none)) else (spec_l5Cur_layout.l0 k (wrap64 (x4+1)) x1000 bt165.2.1 bt165.2.2 x164000 x164001))) else ((spec_l5Cur_pick.f x1000 x1001 x1002 12).bind fun bt171=>(if bt171.1 > 0 then (if x164001.length<8796093022208 then (spec_l5Cur_layout.l0 k (wrap64 (x4+1)) x1000 bt171.2.1 bt171.2.2 x164000 (x164001 ++ [(⟨wrap64 (x4 - 1),x4⟩:S88)])) else (none)) else (spec_l5Cur_layout.l0 k (wrap64 (x4+1)) x1000 bt171.2.1 bt171.2.2 x164000 x164001)))) else ((spec_l5Cur_pick.f x1000 x1001 x1002 3).bind fun bt177=>(spec_l5Cur_layout.l1 k bt177.1 x1000 bt177.2.1 bt177.2.2 x164000 x164001))
def spec_l5Cur_layout.l1:Nat→Int→List Int→Int→Int→Int→List (S88)→Option (Int × (List (S88)) × Int × Int)
 | 0,_,_,_,_,_,_=>none
 | k+1,x6,x1000,x1001,x1002,x164000,x164001=>if x6 > 0 then ((spec_l5Cur_pick.f x1000 x1001 x1002 (wrap64 (x164000+1))).bind fun bt180=>((spec_l5Cur_pick.f x1000 bt180.2.1 bt180.2.2 (wrap64 (x164000+1))).bind fun bt183=>(if (wrap64 (bt180.1 - 1))=(wrap64 (bt183.1 - 1)) then (spec_l5Cur_layout.l1 k (wrap64 (x6 - 1)) x1000 bt183.2.1 bt183.2.2 x164000 x164001) else (if x164001.length<8796093022208 then (spec_l5Cur_layout.l1 k (wrap64 (x6 - 1)) x1000 bt183.2.1 bt183.2.2 x164000 (x164001 ++ [(⟨wrap64 (bt180.1 - 1),wrap64 (bt183.1 - 1)⟩:S88)])) else (none))))) else (some (x164000,x164001,x1001,x1002))
end
def spec_l5Cur_layout.f (k:Nat) (s0_0:List Int) (s0_1:Int) (s0_2:Int):Option (Int × (List (S88)) × Int × Int):=(spec_l5Cur_pick.f s0_0 s0_1 s0_2 5).bind fun bt160=>(spec_l5Cur_layout.l0 k 0 s0_0 bt160.2.1 bt160.2.2 (wrap64 (1+bt160.1)) ([]:List (S88)))
set_option maxHeartbeats 8000000 in
set_option maxRecDepth 100000 in
theorem spec_l5Cur_layout.calls (k:Nat) (g:Nat) (s0_0:List Int) (s0_1:Int) (s0_2:Int) (r1:Int) (r2:List (S88)) (r3:Int) (r4:Int) (w0 w:World) (hI:IsS116 w0 w g s0_0 s0_1 s0_2) (hB:Below w0.heap.size w0 w) (h:spec_l5Cur_layout.f k s0_0 s0_1 s0_2=some (r1,r2,r3,r4)) :
  Calls Try.prog 91 #[.pointer (some ⟨g,0,none⟩)] w fun e w'=>∃ v1_:Value,e=.returned (.agg #[.int .i64 r1,v1_])∧Kd.R k88 88 w' w.heap.size (fun _=>True) v1_ r2∧IsS116 w0 w' g s0_0 r3 r4∧Below w0.heap.size w0 w'∧KeepBut w w' g none:=by
 have hu30:=Try.underlying30
 have hu88:=Try.underlying88
 have HI0:=Aside0.mk hI
 have HK:=Aside0.mk (KeepBut.refl w g none)
 have HL:=Aside0.mk hB.size
 clear hI
 have HW0:=Aside0.mk hB.size
 have HB:=Aside0.mk hB
 clear hB
 have H:((spec_l5Cur_pick.f s0_0 s0_1 s0_2 5).bind fun bt160=>(spec_l5Cur_layout.l0 k 0 s0_0 bt160.2.1 bt160.2.2 (wrap64 (1+bt160.1)) ([]:List (S88))))=some (r1,r2,r3,r4):=h
 clear h
 replace H:=Option.bind_eq_some_iff.mp H
 obtain ⟨⟨t160,t161,t162⟩,A20,H⟩:=H
 replace H:(spec_l5Cur_layout.l0 k 0 s0_0 t161 t162 (wrap64 (1+t160)) ([]:List (S88)))=some (r1,r2,r3,r4):=H
 have A2:=Aside0.mk A20
 clear A20
 have H':=Aside0.mk H
 clear H
 go_enter Try.func91,Try.ntmps91
 go_wp2_with (first|((with_reducible refine gate_dst (N:=2) rfl ?_);refine box_event ?hg (N:=2) ?hd (cs:=#[.int .i64 0,.slice none 0 0]) (t:=30) ?hr ?_;(case hd=>rfl);(case hg=>rfl);(case hr=>first|(go_simp;done)|(go_simp;rfl));intro gb159 hg w3 hbox hb;have n0_:=Aside0.mk (IsS116.below (by repeat (first|(with_reducible first|exact HI0.out|apply IsS116.alloc|apply IsS116.drewN|apply IsS116.drew|apply IsS116.set_1|apply IsS116.set_2)|exact HI0.out)) hb);have n1_:=Aside0.mk (KeepBut.trans (by repeat (first|(with_reducible first|exact HK.out|apply KeepBut.set_|apply keep_drewN|apply keep_drew|apply keep_alloc)|exact HK.out)) (KeepBut.of_below hb g none) (.inl rfl));have n2_:=Aside0.mk (below_step (by repeat (first|(with_reducible first|exact HB.out|apply below_alloc|apply pw_below_drewN|apply below_drew1|refine below_set ?_ (IsS116.ge HI0.out))|exact HB.out)) hb);have n3_:=Aside0.mk (hbox);have n4_:=Aside0.mk ((by rw [hg];exact (keep_size (w:=w) (g:=g) (row:=none) (by repeat (first|(with_reducible first|exact HK.out|apply KeepBut.set_|apply keep_drewN|apply keep_drew|apply keep_alloc)|exact HK.out))):w.heap.size≤gb159));have n5_:=Aside0.mk ((Nat.le_trans HW0.out (by rw [hg];exact (keep_size (w:=w) (g:=g) (row:=none) (by repeat (first|(with_reducible first|exact HK.out|apply KeepBut.set_|apply keep_drewN|apply keep_drew|apply keep_alloc)|exact HK.out))):w.heap.size≤gb159):w0.heap.size≤gb159));have n6_:=Aside0.mk ((by rw [hg];exact Nat.ne_of_lt (IsS116.lt (show IsS116 w0 _ g s0_0 s0_1 s0_2 from by repeat (first|(with_reducible first|exact HI0.out|apply IsS116.alloc|apply IsS116.drewN|apply IsS116.drew|apply IsS116.set_1|apply IsS116.set_2)|exact HI0.out))):g ≠ gb159));have n7_:=Aside0.mk ((by rw [hg];exact Nat.ne_of_gt (IsS116.lt (show IsS116 w0 _ g s0_0 s0_1 s0_2 from by repeat (first|(with_reducible first|exact HI0.out|apply IsS116.alloc|apply IsS116.drewN|apply IsS116.drew|apply IsS116.set_1|apply IsS116.set_2)|exact HI0.out))):gb159 ≠ g));clear HI0;clear HK;clear HB;have HI0:=n0_;have HK:=n1_;have HB:=n2_;have BK159:=n3_;have GW159:=n4_;have GE159:=n5_;have NB0_159:=n6_;have NB159_0:=n7_;clear n0_ n1_ n2_ n3_ n4_ n5_ n6_ n7_;clear hb hbox hg)|((with_reducible refine gate_callee (f:=108) rfl ?_);refine goesL_ (some 10) rfl rfl Try.func108 (by kernel_rfl) rfl #[.pointer (some ⟨g,0,none⟩),.int .i64 5] rfl (by (try simp only [List.map_toArray,List.map_cons,List.map_nil]);first|done|rfl|(simp only [List.length_drop,List.length_take];rfl)) ?_;(with_reducible refine (spec_l5Cur_pick.calls g s0_0 s0_1 s0_2 5 t160 t161 t162 w0 _ ?side1 ?side2 A2.out).mono ?_);(case side1=>repeat (first|(with_reducible first|exact HI0.out|apply IsS116.alloc|apply IsS116.drewN|apply IsS116.drew|apply IsS116.set_1|apply IsS116.set_2|refine IsS116.far ?_ NB0_159.out _)|exact HI0.out));(case side2=>repeat (first|(with_reducible first|exact HB.out|apply below_alloc|apply pw_below_drewN|apply below_drew1|refine below_set ?_ (IsS116.ge HI0.out)|refine below_set ?_ GE159.out)|exact HB.out));rintro e w4 ⟨rfl,hi,hb,hk⟩;refine ⟨_,rfl,?_⟩;have n0_:=Aside0.mk (KeepBut.blk hk (g':=gb159) (o:=.cells #[.int .i64 0,.slice none 0 0] 30 (0,0)) (by (with_reducible repeat (first|refine blk_drewN ?_ _|refine blk_drew ?_|refine blk_alloc ?_ _));exact BK159.out) NB159_0.out (by simp));have n1_:=Aside0.mk (KeepBut.trans (by repeat (first|(with_reducible first|exact HK.out|apply KeepBut.set_|apply keep_drewN|apply keep_drew|apply keep_alloc|refine keep_far ?_ GW159.out _)|exact HK.out)) hk (.inl rfl));have n2_:=Aside0.mk (hb);have n3_:=Aside0.mk (hi);clear BK159;clear HK;clear HB;clear HI0;have BK159:=n0_;have HK:=n1_;have HB:=n2_;have HI0:=n3_;clear n0_ n1_ n2_ n3_;(try clear hb);(try clear hb2);(try clear hk);(try clear hi))|((with_reducible refine gate_dst (N:=3) rfl ?_);refine box_event ?hg (N:=3) ?hd (cs:=#[.int .i64 0,.slice none 0 0]) (t:=30) ?hr ?_;(case hd=>rfl);(case hg=>rfl);(case hr=>first|(go_simp;done)|(go_simp;rfl));intro gb163 hg w5 hbox hb;have n0_:=Aside0.mk (IsS116.below (by repeat (first|(with_reducible first|exact HI0.out|apply IsS116.alloc|apply IsS116.drewN|apply IsS116.drew|apply IsS116.set_1|apply IsS116.set_2|refine IsS116.far ?_ NB0_159.out _)|exact HI0.out)) hb);have n1_:=Aside0.mk (blk_below (g:=gb159) (o:=.cells #[.int .i64 0,.slice none 0 0] 30 (0,0)) (by (with_reducible repeat (first|refine blk_drewN ?_ _|refine blk_drew ?_|refine blk_alloc ?_ _));exact BK159.out) hb);have n2_:=Aside0.mk (KeepBut.trans (by repeat (first|(with_reducible first|exact HK.out|apply KeepBut.set_|apply keep_drewN|apply keep_drew|apply keep_alloc|refine keep_far ?_ GW159.out _)|exact HK.out)) (KeepBut.of_below hb g none) (.inl rfl));have n3_:=Aside0.mk (below_step (by repeat (first|(with_reducible first|exact HB.out|apply below_alloc|apply pw_below_drewN|apply below_drew1|refine below_set ?_ (IsS116.ge HI0.out)|refine below_set ?_ GE159.out)|exact HB.out)) hb);have n4_:=Aside0.mk (hbox);have n5_:=Aside0.mk ((by rw [hg];exact (keep_size (w:=w) (g:=g) (row:=none) (by repeat (first|(with_reducible first|exact HK.out|apply KeepBut.set_|apply keep_drewN|apply keep_drew|apply keep_alloc|refine keep_far ?_ GW159.out _)|exact HK.out))):w.heap.size≤gb163));have n6_:=Aside0.mk ((Nat.le_trans HW0.out (by rw [hg];exact (keep_size (w:=w) (g:=g) (row:=none) (by repeat (first|(with_reducible first|exact HK.out|apply KeepBut.set_|apply keep_drewN|apply keep_drew|apply keep_alloc|refine keep_far ?_ GW159.out _)|exact HK.out))):w.heap.size≤gb163):w0.heap.size≤gb163));have n7_:=Aside0.mk ((by rw [hg];exact Nat.ne_of_lt (blk_lt (g:=gb159) (o:=.cells #[.int .i64 0,.slice none 0 0] 30 (0,0)) (by (with_reducible repeat (first|refine blk_drewN ?_ _|refine blk_drew ?_|refine blk_alloc ?_ _));exact BK159.out)):gb159 ≠ gb163));have n8_:=Aside0.mk ((by rw [hg];exact Nat.ne_of_gt (blk_lt (g:=gb159) (o:=.cells #[.int .i64 0,.slice none 0 0] 30 (0,0)) (by (with_reducible repeat (first|refine blk_drewN ?_ _|refine blk_drew ?_|refine blk_alloc ?_ _));exact BK159.out)):gb163 ≠ gb159));have n9_:=Aside0.mk ((by rw [hg];exact Nat.ne_of_lt (IsS116.lt (show IsS116 w0 _ g s0_0 t161 t162 from by repeat (first|(with_reducible first|exact HI0.out|apply IsS116.alloc|apply IsS116.drewN|apply IsS116.drew|apply IsS116.set_1|apply IsS116.set_2|refine IsS116.far ?_ NB0_159.out _)|exact HI0.out))):g ≠ gb163));have n10_:=Aside0.mk ((by rw [hg];exact Nat.ne_of_gt (IsS116.lt (show IsS116 w0 _ g s0_0 t161 t162 from by repeat (first|(with_reducible first|exact HI0.out|apply IsS116.alloc|apply IsS116.drewN|apply IsS116.drew|apply IsS116.set_1|apply IsS116.set_2|refine IsS116.far ?_ NB0_159.out _)|exact HI0.out))):gb163 ≠ g));clear HI0;clear BK159;clear HK;clear HB;have HI0:=n0_;have BK159:=n1_;have HK:=n2_;have HB:=n3_;have BK163:=n4_;have GW163:=n5_;have GE163:=n6_;have NB159_163:=n7_;have NB163_159:=n8_;have NB0_163:=n9_;have NB163_0:=n10_;clear n0_ n1_ n2_ n3_ n4_ n5_ n6_ n7_ n8_ n9_ n10_;clear hb hbox hg;have hnb6:=NB163_159.out;have hnc6:=NB159_163.out;have hnb7:=NB163_0.out;have hnc7:=NB0_163.out;have hcz8_0:w5.cell? ⟨gb163,0,none⟩=some (.int .i64 0):=(blk_cell BK163.out 0).trans rfl;have hcz8_1:w5.cell? ⟨gb163,1,none⟩=some (.slice none 0 0):=(blk_cell BK163.out 1).trans rfl;have hfz8_0:=blk_frozen BK163.out 0;have hfz8_1:=blk_frozen BK163.out 1))
 go_loopg [4] k (fun kq v4 w'=>∃ (x4_1:Int) (x1001_1:Int) (x1002_1:Int) (x164001_1:List (S88)) (u164001:Value),v4=.int .i64 x4_1∧Aside0 (spec_l5Cur_layout.l0 kq x4_1 s0_0 x1001_1 x1002_1 (wrap64 (1+t160)) x164001_1=some (r1,r2,r3,r4))∧Aside0 (kq≤k)∧Aside0 (Kd.R k88 88 w' w.heap.size (fun _=>True) u164001 x164001_1)∧Aside0 (w'.heap[gb159]?=some (.cells #[.int .i64 0,(.slice none 0 0)] 30 (0,0)))∧Aside0 (w'.heap[gb163]?=some (.cells #[.int .i64 (wrap64 (1+t160)),u164001] 30 (0,0)))∧Aside0 (IsS116 w0 w' g s0_0 x1001_1 x1002_1)∧Aside0 (KeepBut w w' g none)∧Aside0 (Below w0.heap.size w0 w'))
 case atStart=>exact ⟨(0),(t161),(t162),(([]:List (S88))),(.slice none 0 0),(by first|rfl|(simp;done)|(simp [*];done)),H',⟨Nat.le_refl _⟩,⟨by first|exact Kd.R_nil _ _ _ _ _|exact Kd.N_nil _ _ _ _ _|exact Kd.V_nil _ _ _ _ _|exact Kd.Q_nil _ _ _ _ _|exact Kd.S_nil _ _ _ _ _⟩,⟨by (with_reducible repeat (first|refine blk_drewN ?_ _|refine blk_drew ?_|refine blk_alloc ?_ _));refine blk_far ?_ NB159_163.out _;(with_reducible repeat (first|refine blk_drewN ?_ _|refine blk_drew ?_|refine blk_alloc ?_ _));refine blk_far ?_ NB159_163.out _;(with_reducible repeat (first|refine blk_drewN ?_ _|refine blk_drew ?_|refine blk_alloc ?_ _));exact BK159.out⟩,⟨by (with_reducible repeat (first|refine blk_drewN ?_ _|refine blk_drew ?_|refine blk_alloc ?_ _));refine blk_put (cs:=#[.int .i64 (wrap64 (1+t160)),.slice none 0 0]) ?_ 1 _ rfl;(with_reducible repeat (first|refine blk_drewN ?_ _|refine blk_drew ?_|refine blk_alloc ?_ _));refine blk_put (cs:=#[.int .i64 0,.slice none 0 0]) ?_ 0 _ rfl;(with_reducible repeat (first|refine blk_drewN ?_ _|refine blk_drew ?_|refine blk_alloc ?_ _));exact BK163.out⟩,⟨by repeat (first|(with_reducible first|exact HI0.out|apply IsS116.alloc|apply IsS116.drewN|apply IsS116.drew|apply IsS116.set_1|apply IsS116.set_2|refine IsS116.far ?_ NB0_159.out _|refine IsS116.far ?_ NB0_163.out _)|exact HI0.out)⟩,⟨by repeat (first|(with_reducible first|exact HK.out|apply KeepBut.set_|apply keep_drewN|apply keep_drew|apply keep_alloc|refine keep_far ?_ GW159.out _|refine keep_far ?_ GW163.out _)|exact HK.out)⟩,⟨by repeat (first|(with_reducible first|exact HB.out|apply below_alloc|apply pw_below_drewN|apply below_drew1|refine below_set ?_ (IsS116.ge HI0.out)|refine below_set ?_ GE159.out|refine below_set ?_ GE163.out)|exact HB.out)⟩⟩
 case round =>
  clear H'
  try clear c1
  try clear p2
  try clear c6
  try clear p6
  try clear c7
  try clear hcz8_0
  try clear hcz8_1
  try clear hfz8_0
  try clear hfz8_1
  obtain ⟨x4_1,x1001_1,x1002_1,x164001_1,u164001,rfl,HA,HK1,HO_164001,BK159,BK163,HI0,HK,HB⟩:=hrel
  cases gk with
  | zero=>exact absurd HA.out (by simp [spec_l5Cur_layout.l0])
  | succ k1 =>
   have H:=HA.out
   clear HA
   simp only [spec_l5Cur_layout.l0] at H
   by_cases c9:x4_1≤(wrap64 (1+t160))
   ·rw [if_pos c9] at H
    have c9b0:decide (x4_1≤(wrap64 (1+t160)))=true:=decide_eq_true c9
    clear c9
    by_cases c10:x4_1=(wrap64 (1+t160))
    ·rw [if_pos c10] at H
     have c10b0:(x4_1==(wrap64 (1+t160)))=true:=beq_iff_eq.mpr c10
     have c10b1:(x4_1 != (wrap64 (1+t160)))=false:=bne_eq_false_iff_eq.mpr c10
     clear c10
     replace H:=Option.bind_eq_some_iff.mp H
     obtain ⟨⟨t165,t166,t167⟩,A110,H⟩:=H
     replace H:(if t165 > 0 then (if x164001_1.length<8796093022208 then (spec_l5Cur_layout.l0 k1 (wrap64 (x4_1+1)) s0_0 t166 t167 (wrap64 (1+t160)) (x164001_1 ++ [(⟨wrap64 (x4_1 - 1),(-1)⟩:S88)])) else (none)) else (spec_l5Cur_layout.l0 k1 (wrap64 (x4_1+1)) s0_0 t166 t167 (wrap64 (1+t160)) x164001_1))=some (r1,r2,r3,r4):=H
     have A11:=Aside0.mk A110
     clear A110
     by_cases c12:t165 > 0
     ·rw [if_pos c12] at H
      have c12b0:decide (0<t165)=true:=decide_eq_true c12
      clear c12
      by_cases c13:x164001_1.length<8796093022208
      ·rw [if_pos c13] at H
       have LMc13:=Aside0.mk c13
       clear c13
       obtain ⟨y168,hy168⟩:∃ y_:List (S88),y_=(x164001_1 ++ [(⟨wrap64 (x4_1 - 1),(-1)⟩:S88)]):=⟨_,rfl⟩
       replace H:(spec_l5Cur_layout.l0 k1 (wrap64 (x4_1+1)) s0_0 t166 t167 (wrap64 (1+t160)) y168)=some (r1,r2,r3,r4):=by first|(rw [hy168];with_reducible exact H)|(have H2_:=(Option.bind_some _ _).symm.trans H;rw [hy168];with_reducible exact H2_)|(have H2_:=(Option.bind_some _ _).symm.trans H;with_reducible exact H2_)|with_reducible exact H|(rw [hy168];exact H)|exact H
       have Ny168:=Aside0.mk hy168
       clear hy168
       have H':=Aside0.mk H
       clear H
       have hnb14:=NB163_159.out
       have hnc14:=NB159_163.out
       have hnb15:=NB163_0.out
       have hnc15:=NB0_163.out
       have hcz16_0:wr.cell? ⟨gb163,0,none⟩=some (.int .i64 (wrap64 (1+t160))):=(blk_cell BK163.out 0).trans rfl
       have hcz16_1:wr.cell? ⟨gb163,1,none⟩=some (u164001):=(blk_cell BK163.out 1).trans rfl
       have hfz16_0:=blk_frozen BK163.out 0
       have hfz16_1:=blk_frozen BK163.out 1
       go_wp2_with (first|((with_reducible refine gate_dst (N:=5) rfl ?_);refine box_event ?hg (N:=5) ?hd (cs:=#[.int .i64 0,.int .i64 0]) (t:=88) ?hr ?_;(case hd=>rfl);(case hg=>rfl);(case hr=>first|(go_simp;done)|(go_simp;rfl));intro gb164 hg w17 hbox hb;have n0_:=Aside0.mk (Kd.R_below (Kd.R_elderB (by (with_reducible repeat (first|apply Kd.R_alloc|apply Kd.R_drewN|apply Kd.R_drew));exact HO_164001.out) gb164 (Nat.le_of_eq hg.symm)) hb);have n1_:=Aside0.mk (blk_below (g:=gb159) (o:=.cells #[.int .i64 0,.slice none 0 0] 30 (0,0)) (by (with_reducible repeat (first|refine blk_drewN ?_ _|refine blk_drew ?_|refine blk_alloc ?_ _));exact BK159.out) hb);have n2_:=Aside0.mk (blk_below (g:=gb163) (o:=.cells #[.int .i64 (wrap64 (1+t160)),u164001] 30 (0,0)) (by (with_reducible repeat (first|refine blk_drewN ?_ _|refine blk_drew ?_|refine blk_alloc ?_ _));exact BK163.out) hb);have n3_:=Aside0.mk (IsS116.below (by repeat (first|(with_reducible first|exact HI0.out|apply IsS116.alloc|apply IsS116.drewN|apply IsS116.drew|apply IsS116.set_1|apply IsS116.set_2|refine IsS116.far ?_ NB0_159.out _|refine IsS116.far ?_ NB0_163.out _)|exact HI0.out)) hb);have n4_:=Aside0.mk (KeepBut.trans (by repeat (first|(with_reducible first|exact HK.out|apply KeepBut.set_|apply keep_drewN|apply keep_drew|apply keep_alloc|refine keep_far ?_ GW159.out _|refine keep_far ?_ GW163.out _)|exact HK.out)) (KeepBut.of_below hb g none) (.inl rfl));have n5_:=Aside0.mk (below_step (by repeat (first|(with_reducible first|exact HB.out|apply below_alloc|apply pw_below_drewN|apply below_drew1|refine below_set ?_ (IsS116.ge HI0.out)|refine below_set ?_ GE159.out|refine below_set ?_ GE163.out)|exact HB.out)) hb);have n6_:=Aside0.mk (hbox);have n7_:=Aside0.mk ((by rw [hg];exact (keep_size (w:=w) (g:=g) (row:=none) (by repeat (first|(with_reducible first|exact HK.out|apply KeepBut.set_|apply keep_drewN|apply keep_drew|apply keep_alloc|refine keep_far ?_ GW159.out _|refine keep_far ?_ GW163.out _)|exact HK.out))):w.heap.size≤gb164));have n8_:=Aside0.mk ((Nat.le_trans HW0.out (by rw [hg];exact (keep_size (w:=w) (g:=g) (row:=none) (by repeat (first|(with_reducible first|exact HK.out|apply KeepBut.set_|apply keep_drewN|apply keep_drew|apply keep_alloc|refine keep_far ?_ GW159.out _|refine keep_far ?_ GW163.out _)|exact HK.out))):w.heap.size≤gb164):w0.heap.size≤gb164));have n9_:=Aside0.mk ((by rw [hg];exact Nat.ne_of_lt (blk_lt (g:=gb159) (o:=.cells #[.int .i64 0,.slice none 0 0] 30 (0,0)) (by (with_reducible repeat (first|refine blk_drewN ?_ _|refine blk_drew ?_|refine blk_alloc ?_ _));exact BK159.out)):gb159 ≠ gb164));have n10_:=Aside0.mk ((by rw [hg];exact Nat.ne_of_gt (blk_lt (g:=gb159) (o:=.cells #[.int .i64 0,.slice none 0 0] 30 (0,0)) (by (with_reducible repeat (first|refine blk_drewN ?_ _|refine blk_drew ?_|refine blk_alloc ?_ _));exact BK159.out)):gb164 ≠ gb159));have n11_:=Aside0.mk ((by rw [hg];exact Nat.ne_of_lt (blk_lt (g:=gb163) (o:=.cells #[.int .i64 (wrap64 (1+t160)),u164001] 30 (0,0)) (by (with_reducible repeat (first|refine blk_drewN ?_ _|refine blk_drew ?_|refine blk_alloc ?_ _));exact BK163.out)):gb163 ≠ gb164));have n12_:=Aside0.mk ((by rw [hg];exact Nat.ne_of_gt (blk_lt (g:=gb163) (o:=.cells #[.int .i64 (wrap64 (1+t160)),u164001] 30 (0,0)) (by (with_reducible repeat (first|refine blk_drewN ?_ _|refine blk_drew ?_|refine blk_alloc ?_ _));exact BK163.out)):gb164 ≠ gb163));have n13_:=Aside0.mk ((by rw [hg];exact Nat.ne_of_lt (IsS116.lt (show IsS116 w0 _ g s0_0 x1001_1 x1002_1 from by repeat (first|(with_reducible first|exact HI0.out|apply IsS116.alloc|apply IsS116.drewN|apply IsS116.drew|apply IsS116.set_1|apply IsS116.set_2|refine IsS116.far ?_ NB0_159.out _|refine IsS116.far ?_ NB0_163.out _)|exact HI0.out))):g ≠ gb164));have n14_:=Aside0.mk ((by rw [hg];exact Nat.ne_of_gt (IsS116.lt (show IsS116 w0 _ g s0_0 x1001_1 x1002_1 from by repeat (first|(with_reducible first|exact HI0.out|apply IsS116.alloc|apply IsS116.drewN|apply IsS116.drew|apply IsS116.set_1|apply IsS116.set_2|refine IsS116.far ?_ NB0_159.out _|refine IsS116.far ?_ NB0_163.out _)|exact HI0.out))):gb164 ≠ g));clear HO_164001;clear BK159;clear BK163;clear HI0;clear HK;clear HB;have HO_164001:=n0_;have BK159:=n1_;have BK163:=n2_;have HI0:=n3_;have HK:=n4_;have HB:=n5_;have BK164:=n6_;have GW164:=n7_;have GE164:=n8_;have NB159_164:=n9_;have NB164_159:=n10_;have NB163_164:=n11_;have NB164_163:=n12_;have NB0_164:=n13_;have NB164_0:=n14_;clear n0_ n1_ n2_ n3_ n4_ n5_ n6_ n7_ n8_ n9_ n10_ n11_ n12_ n13_ n14_;clear hb hbox hg;have hnb18:=NB164_159.out;have hnc18:=NB159_164.out;have hnb19:=NB164_163.out;have hnc19:=NB163_164.out;have hnb20:=NB164_0.out;have hnc20:=NB0_164.out;have hcz21_0:w17.cell? ⟨gb164,0,none⟩=some (.int .i64 0):=(blk_cell BK164.out 0).trans rfl;have hcz21_1:w17.cell? ⟨gb164,1,none⟩=some (.int .i64 0):=(blk_cell BK164.out 1).trans rfl;have hfz21_0:=blk_frozen BK164.out 0;have hfz21_1:=blk_frozen BK164.out 1;have hcz22_0:w17.cell? ⟨gb163,0,none⟩=some (.int .i64 (wrap64 (1+t160))):=(blk_cell BK163.out 0).trans rfl;have hcz22_1:w17.cell? ⟨gb163,1,none⟩=some (u164001):=(blk_cell BK163.out 1).trans rfl;have hfz22_0:=blk_frozen BK163.out 0;have hfz22_1:=blk_frozen BK163.out 1)|((with_reducible refine gate_callee (f:=108) rfl ?_);refine goesL_ (some 29) rfl rfl Try.func108 (by kernel_rfl) rfl #[.pointer (some ⟨g,0,none⟩),.int .i64 12] rfl (by (try simp only [List.map_toArray,List.map_cons,List.map_nil]);first|done|rfl|(simp only [List.length_drop,List.length_take];rfl)) ?_;(with_reducible refine (spec_l5Cur_pick.calls g s0_0 x1001_1 x1002_1 12 t165 t166 t167 w0 _ ?side1 ?side2 A11.out).mono ?_);(case side1=>repeat (first|(with_reducible first|exact HI0.out|apply IsS116.alloc|apply IsS116.drewN|apply IsS116.drew|apply IsS116.set_1|apply IsS116.set_2|refine IsS116.far ?_ NB0_159.out _|refine IsS116.far ?_ NB0_163.out _|refine IsS116.far ?_ NB0_164.out _)|exact HI0.out));(case side2=>repeat (first|(with_reducible first|exact HB.out|apply below_alloc|apply pw_below_drewN|apply below_drew1|refine below_set ?_ (IsS116.ge HI0.out)|refine below_set ?_ GE159.out|refine below_set ?_ GE163.out|refine below_set ?_ GE164.out)|exact HB.out));rintro e w23 ⟨rfl,hi,hb,hk⟩;refine ⟨_,rfl,?_⟩;have n0_:=Aside0.mk (Kd.R_mono (Kd.R_keep (IsS116.apart (show IsS116 w0 _ g s0_0 x1001_1 x1002_1 from by repeat (first|(with_reducible first|exact HI0.out|apply IsS116.alloc|apply IsS116.drewN|apply IsS116.drew|apply IsS116.set_1|apply IsS116.set_2|refine IsS116.far ?_ NB0_159.out _|refine IsS116.far ?_ NB0_163.out _|refine IsS116.far ?_ NB0_164.out _)|exact HI0.out)) (by (with_reducible repeat (first|apply Kd.R_alloc|apply Kd.R_drewN|apply Kd.R_drew));exact (Kd.R_mono (Kd.R_far (p:=⟨gb164,1,none⟩) (Kd.R_far (p:=⟨gb164,1,none⟩) (Kd.R_far (p:=⟨gb164,0,none⟩) (Kd.R_mono HO_164001.out (fun k_ hk=>(⟨hk,hk.2⟩:_∧k_ ≠ gb164))) (fun _ hk=>hk.2) (.int .i64 (wrap64 (x4_1 - 1)))) (fun _ hk=>hk.2) (.int .i64 x4_1)) (fun _ hk=>hk.2) (.int .i64 (-1))) (fun _ h_=>h_.1))) (by decide)) hk (fun _ h=>h.2)) (fun _ h=>h.1));have n1_:=Aside0.mk (KeepBut.blk hk (g':=gb159) (o:=.cells #[.int .i64 0,.slice none 0 0] 30 (0,0)) (by (with_reducible repeat (first|refine blk_drewN ?_ _|refine blk_drew ?_|refine blk_alloc ?_ _));refine blk_far ?_ NB159_164.out _;(with_reducible repeat (first|refine blk_drewN ?_ _|refine blk_drew ?_|refine blk_alloc ?_ _));refine blk_far ?_ NB159_164.out _;(with_reducible repeat (first|refine blk_drewN ?_ _|refine blk_drew ?_|refine blk_alloc ?_ _));refine blk_far ?_ NB159_164.out _;(with_reducible repeat (first|refine blk_drewN ?_ _|refine blk_drew ?_|refine blk_alloc ?_ _));exact BK159.out) NB159_0.out (by simp));have n2_:=Aside0.mk (KeepBut.blk hk (g':=gb163) (o:=.cells #[.int .i64 (wrap64 (1+t160)),u164001] 30 (0,0)) (by (with_reducible repeat (first|refine blk_drewN ?_ _|refine blk_drew ?_|refine blk_alloc ?_ _));refine blk_far ?_ NB163_164.out _;(with_reducible repeat (first|refine blk_drewN ?_ _|refine blk_drew ?_|refine blk_alloc ?_ _));refine blk_far ?_ NB163_164.out _;(with_reducible repeat (first|refine blk_drewN ?_ _|refine blk_drew ?_|refine blk_alloc ?_ _));refine blk_far ?_ NB163_164.out _;(with_reducible repeat (first|refine blk_drewN ?_ _|refine blk_drew ?_|refine blk_alloc ?_ _));exact BK163.out) NB163_0.out (by simp));have n3_:=Aside0.mk (KeepBut.blk hk (g':=gb164) (o:=.cells #[.int .i64 (wrap64 (x4_1 - 1)),.int .i64 (-1)] 88 (0,0)) (by (with_reducible repeat (first|refine blk_drewN ?_ _|refine blk_drew ?_|refine blk_alloc ?_ _));refine blk_put (cs:=#[.int .i64 (wrap64 (x4_1 - 1)),.int .i64 x4_1]) ?_ 1 _ rfl;(with_reducible repeat (first|refine blk_drewN ?_ _|refine blk_drew ?_|refine blk_alloc ?_ _));refine blk_put (cs:=#[.int .i64 (wrap64 (x4_1 - 1)),.int .i64 0]) ?_ 1 _ rfl;(with_reducible repeat (first|refine blk_drewN ?_ _|refine blk_drew ?_|refine blk_alloc ?_ _));refine blk_put (cs:=#[.int .i64 0,.int .i64 0]) ?_ 0 _ rfl;(with_reducible repeat (first|refine blk_drewN ?_ _|refine blk_drew ?_|refine blk_alloc ?_ _));exact BK164.out) NB164_0.out (by simp));have n4_:=Aside0.mk (KeepBut.trans (by repeat (first|(with_reducible first|exact HK.out|apply KeepBut.set_|apply keep_drewN|apply keep_drew|apply keep_alloc|refine keep_far ?_ GW159.out _|refine keep_far ?_ GW163.out _|refine keep_far ?_ GW164.out _)|exact HK.out)) hk (.inl rfl));have n5_:=Aside0.mk (hb);have n6_:=Aside0.mk (hi);clear HO_164001;clear BK159;clear BK163;clear BK164;clear HK;clear HB;clear HI0;have HO_164001:=n0_;have BK159:=n1_;have BK163:=n2_;have BK164:=n3_;have HK:=n4_;have HB:=n5_;have HI0:=n6_;clear n0_ n1_ n2_ n3_ n4_ n5_ n6_;(try clear hb);(try clear hb2);(try clear hk);(try clear hi);have hcz24_0:w23.cell? ⟨gb163,0,none⟩=some (.int .i64 (wrap64 (1+t160))):=(blk_cell BK163.out 0).trans rfl;have hcz24_1:w23.cell? ⟨gb163,1,none⟩=some (u164001):=(blk_cell BK163.out 1).trans rfl;have hfz24_0:=blk_frozen BK163.out 0;have hfz24_1:=blk_frozen BK163.out 1;have hcz25_0:w23.cell? ⟨gb164,0,none⟩=some (.int .i64 (wrap64 (x4_1 - 1))):=(blk_cell BK164.out 0).trans rfl;have hcz25_1:w23.cell? ⟨gb164,1,none⟩=some (.int .i64 (-1)):=(blk_cell BK164.out 1).trans rfl;have hfz25_0:=blk_frozen BK164.out 0;have hfz25_1:=blk_frozen BK164.out 1)|((with_reducible refine gate_builtin (b:=.append) (xs:=#[.tmp 32,.tmp 34]) rfl ?_);at_builtin;refine Kd.R_append k88 w.heap.size rfl (.tmp 32) (.tmp 34) 28 88 (.agg #[(.int .i64 0),(.int .i64 0)]) 16 rfl Try.underlying28 info88 rfl (by decide) (by omega) u164001 x164001_1 (⟨wrap64 (x4_1 - 1),(-1)⟩:S88) [.int .i64 (wrap64 (x4_1 - 1)),.int .i64 (-1)] (fun k_=>k_ ≠ gb164) (fun _=>False) rfl rfl ?aP (fun _ hk=>hk.elim) ?aF ?aO (Below.refl _ _) ?aS ?aL ?_;(case aP=>exact k88_mkM _ _ _ (⟨wrap64 (x4_1 - 1),(-1)⟩:S88));(case aF=>exact (fun k_ hk=>Kd.freshB (g:=gb164) (o:=.cells #[.int .i64 (wrap64 (x4_1 - 1)),.int .i64 (-1)] 88 (0,0)) (by (with_reducible repeat (first|refine blk_drewN ?_ _|refine blk_drew ?_|refine blk_alloc ?_ _));exact BK164.out) k_ hk));(case aO=>exact (by (with_reducible repeat (first|apply Kd.R_alloc|apply Kd.R_drewN|apply Kd.R_drew));exact Kd.R_mono HO_164001.out (fun _ hk=>hk.2)));(case aS=>exact (keep_size (w:=w) (g:=g) (row:=none) (by repeat (first|(with_reducible first|exact HK.out|apply KeepBut.set_|apply keep_drewN|apply keep_drew|apply keep_alloc|refine keep_far ?_ GW159.out _|refine keep_far ?_ GW163.out _|refine keep_far ?_ GW164.out _)|exact HK.out))));(case aL=>have:=LMc13.out;omega);intro v169 w26 ho hb hg hat;rw [← Ny168.out] at ho;have n0_:=Aside0.mk (blk_grown (g:=gb159) (o:=.cells #[.int .i64 0,.slice none 0 0] 30 (0,0)) (by (with_reducible repeat (first|refine blk_drewN ?_ _|refine blk_drew ?_|refine blk_alloc ?_ _));exact BK159.out) hg (Kd.R_ne HO_164001.out BK159.out (by decide)));have n1_:=Aside0.mk (blk_grown (g:=gb163) (o:=.cells #[.int .i64 (wrap64 (1+t160)),u164001] 30 (0,0)) (by (with_reducible repeat (first|refine blk_drewN ?_ _|refine blk_drew ?_|refine blk_alloc ?_ _));exact BK163.out) hg (Kd.R_ne HO_164001.out BK163.out (by decide)));have n2_:=Aside0.mk (IsS116.grown (by repeat (first|(with_reducible first|exact HI0.out|apply IsS116.alloc|apply IsS116.drewN|apply IsS116.drew|apply IsS116.set_1|apply IsS116.set_2|refine IsS116.far ?_ NB0_159.out _|refine IsS116.far ?_ NB0_163.out _|refine IsS116.far ?_ NB0_164.out _)|exact HI0.out)) hg (IsS116.own_ne HI0.out HO_164001.out (by decide)));have n3_:=Aside0.mk (blk_grown (g:=gb164) (o:=.cells #[.int .i64 (wrap64 (x4_1 - 1)),.int .i64 (-1)] 88 (0,0)) (by (with_reducible repeat (first|refine blk_drewN ?_ _|refine blk_drew ?_|refine blk_alloc ?_ _));exact BK164.out) hg (Kd.R_away HO_164001.out (fun _ hk=>hk.2)));have n4_:=Aside0.mk (below_weaken (by repeat (first|(with_reducible first|exact HB.out|apply below_alloc|apply pw_below_drewN|apply below_drew1|refine below_set ?_ (IsS116.ge HI0.out)|refine below_set ?_ GE159.out|refine below_set ?_ GE163.out|refine below_set ?_ GE164.out)|exact HB.out)) HL.out hb);have n5_:=Aside0.mk (KeepBut.trans (by repeat (first|(with_reducible first|exact HK.out|apply KeepBut.set_|apply keep_drewN|apply keep_drew|apply keep_alloc|refine keep_far ?_ GW159.out _|refine keep_far ?_ GW163.out _|refine keep_far ?_ GW164.out _)|exact HK.out)) (KeepBut.of_grown hg g) (Kd.R_base2 HO_164001.out));have n6_:=Aside0.mk (ho);clear BK159;clear BK163;clear HI0;clear BK164;clear HB;clear HK;clear HO_164001;have BK159:=n0_;have BK163:=n1_;have HI0:=n2_;have BK164:=n3_;have HB:=n4_;have HK:=n5_;have HO170:=n6_;clear n0_ n1_ n2_ n3_ n4_ n5_ n6_;clear ho hb hg hat;obtain ⟨Ao27,co27,eo27⟩:=Kd.R_slice HO170.out;subst eo27;have hcz28_0:w26.cell? ⟨gb163,0,none⟩=some (.int .i64 (wrap64 (1+t160))):=(blk_cell BK163.out 0).trans rfl;have hcz28_1:w26.cell? ⟨gb163,1,none⟩=some (u164001):=(blk_cell BK163.out 1).trans rfl;have hfz28_0:=blk_frozen BK163.out 0;have hfz28_1:=blk_frozen BK163.out 1))
       go_roundg k1
       case measure=>have:=HK1.out;omega
       case rel=>exact ⟨(wrap64 (x4_1+1)),(t166),(t167),(y168),(.slice Ao27 y168.length co27),(by first|rfl|(simp;done)|(simp [*];done)),H',⟨by have:=HK1.out;omega⟩,⟨by (with_reducible repeat (first|apply Kd.R_alloc|apply Kd.R_drewN|apply Kd.R_drew));exact Kd.R_mono (Kd.R_far (p:=⟨gb163,1,none⟩) (Kd.R_types HO170.out BK163.out (by decide)) (fun _ hk=>hk.2) (.slice Ao27 y168.length co27)) (fun _ hk=>trivial)⟩,⟨by (with_reducible repeat (first|refine blk_drewN ?_ _|refine blk_drew ?_|refine blk_alloc ?_ _));refine blk_far ?_ NB159_163.out _;(with_reducible repeat (first|refine blk_drewN ?_ _|refine blk_drew ?_|refine blk_alloc ?_ _));exact BK159.out⟩,⟨by (with_reducible repeat (first|refine blk_drewN ?_ _|refine blk_drew ?_|refine blk_alloc ?_ _));refine blk_put (cs:=#[.int .i64 (wrap64 (1+t160)),u164001]) ?_ 1 _ rfl;(with_reducible repeat (first|refine blk_drewN ?_ _|refine blk_drew ?_|refine blk_alloc ?_ _));exact BK163.out⟩,⟨by repeat (first|(with_reducible first|exact HI0.out|apply IsS116.alloc|apply IsS116.drewN|apply IsS116.drew|apply IsS116.set_1|apply IsS116.set_2|refine IsS116.far ?_ NB0_159.out _|refine IsS116.far ?_ NB0_163.out _|refine IsS116.far ?_ NB0_164.out _)|exact HI0.out)⟩,⟨by repeat (first|(with_reducible first|exact HK.out|apply KeepBut.set_|apply keep_drewN|apply keep_drew|apply keep_alloc|refine keep_far ?_ GW159.out _|refine keep_far ?_ GW163.out _|refine keep_far ?_ GW164.out _)|exact HK.out)⟩,⟨by repeat (first|(with_reducible first|exact HB.out|apply below_alloc|apply pw_below_drewN|apply below_drew1|refine below_set ?_ (IsS116.ge HI0.out)|refine below_set ?_ GE159.out|refine below_set ?_ GE163.out|refine below_set ?_ GE164.out)|exact HB.out)⟩⟩
      rw [if_neg c13] at H
      exact absurd H (by simp)
     rw [if_neg c12] at H
     have c12b0:decide (0<t165)=false:=decide_eq_false c12
     clear c12
     have H':=Aside0.mk H
     clear H
     have hnb29:=NB163_159.out
     have hnc29:=NB159_163.out
     have hnb30:=NB163_0.out
     have hnc30:=NB0_163.out
     have hcz31_0:wr.cell? ⟨gb163,0,none⟩=some (.int .i64 (wrap64 (1+t160))):=(blk_cell BK163.out 0).trans rfl
     have hcz31_1:wr.cell? ⟨gb163,1,none⟩=some (u164001):=(blk_cell BK163.out 1).trans rfl
     have hfz31_0:=blk_frozen BK163.out 0
     have hfz31_1:=blk_frozen BK163.out 1
     go_wp2_with (first|((with_reducible refine gate_dst (N:=5) rfl ?_);refine box_event ?hg (N:=5) ?hd (cs:=#[.int .i64 0,.int .i64 0]) (t:=88) ?hr ?_;(case hd=>rfl);(case hg=>rfl);(case hr=>first|(go_simp;done)|(go_simp;rfl));intro gb164 hg w32 hbox hb;have n0_:=Aside0.mk (Kd.R_below (Kd.R_elderB (by (with_reducible repeat (first|apply Kd.R_alloc|apply Kd.R_drewN|apply Kd.R_drew));exact HO_164001.out) gb164 (Nat.le_of_eq hg.symm)) hb);have n1_:=Aside0.mk (blk_below (g:=gb159) (o:=.cells #[.int .i64 0,.slice none 0 0] 30 (0,0)) (by (with_reducible repeat (first|refine blk_drewN ?_ _|refine blk_drew ?_|refine blk_alloc ?_ _));exact BK159.out) hb);have n2_:=Aside0.mk (blk_below (g:=gb163) (o:=.cells #[.int .i64 (wrap64 (1+t160)),u164001] 30 (0,0)) (by (with_reducible repeat (first|refine blk_drewN ?_ _|refine blk_drew ?_|refine blk_alloc ?_ _));exact BK163.out) hb);have n3_:=Aside0.mk (IsS116.below (by repeat (first|(with_reducible first|exact HI0.out|apply IsS116.alloc|apply IsS116.drewN|apply IsS116.drew|apply IsS116.set_1|apply IsS116.set_2|refine IsS116.far ?_ NB0_159.out _|refine IsS116.far ?_ NB0_163.out _)|exact HI0.out)) hb);have n4_:=Aside0.mk (KeepBut.trans (by repeat (first|(with_reducible first|exact HK.out|apply KeepBut.set_|apply keep_drewN|apply keep_drew|apply keep_alloc|refine keep_far ?_ GW159.out _|refine keep_far ?_ GW163.out _)|exact HK.out)) (KeepBut.of_below hb g none) (.inl rfl));have n5_:=Aside0.mk (below_step (by repeat (first|(with_reducible first|exact HB.out|apply below_alloc|apply pw_below_drewN|apply below_drew1|refine below_set ?_ (IsS116.ge HI0.out)|refine below_set ?_ GE159.out|refine below_set ?_ GE163.out)|exact HB.out)) hb);have n6_:=Aside0.mk (hbox);have n7_:=Aside0.mk ((by rw [hg];exact (keep_size (w:=w) (g:=g) (row:=none) (by repeat (first|(with_reducible first|exact HK.out|apply KeepBut.set_|apply keep_drewN|apply keep_drew|apply keep_alloc|refine keep_far ?_ GW159.out _|refine keep_far ?_ GW163.out _)|exact HK.out))):w.heap.size≤gb164));have n8_:=Aside0.mk ((Nat.le_trans HW0.out (by rw [hg];exact (keep_size (w:=w) (g:=g) (row:=none) (by repeat (first|(with_reducible first|exact HK.out|apply KeepBut.set_|apply keep_drewN|apply keep_drew|apply keep_alloc|refine keep_far ?_ GW159.out _|refine keep_far ?_ GW163.out _)|exact HK.out))):w.heap.size≤gb164):w0.heap.size≤gb164));have n9_:=Aside0.mk ((by rw [hg];exact Nat.ne_of_lt (blk_lt (g:=gb159) (o:=.cells #[.int .i64 0,.slice none 0 0] 30 (0,0)) (by (with_reducible repeat (first|refine blk_drewN ?_ _|refine blk_drew ?_|refine blk_alloc ?_ _));exact BK159.out)):gb159 ≠ gb164));have n10_:=Aside0.mk ((by rw [hg];exact Nat.ne_of_gt (blk_lt (g:=gb159) (o:=.cells #[.int .i64 0,.slice none 0 0] 30 (0,0)) (by (with_reducible repeat (first|refine blk_drewN ?_ _|refine blk_drew ?_|refine blk_alloc ?_ _));exact BK159.out)):gb164 ≠ gb159));have n11_:=Aside0.mk ((by rw [hg];exact Nat.ne_of_lt (blk_lt (g:=gb163) (o:=.cells #[.int .i64 (wrap64 (1+t160)),u164001] 30 (0,0)) (by (with_reducible repeat (first|refine blk_drewN ?_ _|refine blk_drew ?_|refine blk_alloc ?_ _));exact BK163.out)):gb163 ≠ gb164));have n12_:=Aside0.mk ((by rw [hg];exact Nat.ne_of_gt (blk_lt (g:=gb163) (o:=.cells #[.int .i64 (wrap64 (1+t160)),u164001] 30 (0,0)) (by (with_reducible repeat (first|refine blk_drewN ?_ _|refine blk_drew ?_|refine blk_alloc ?_ _));exact BK163.out)):gb164 ≠ gb163));have n13_:=Aside0.mk ((by rw [hg];exact Nat.ne_of_lt (IsS116.lt (show IsS116 w0 _ g s0_0 x1001_1 x1002_1 from by repeat (first|(with_reducible first|exact HI0.out|apply IsS116.alloc|apply IsS116.drewN|apply IsS116.drew|apply IsS116.set_1|apply IsS116.set_2|refine IsS116.far ?_ NB0_159.out _|refine IsS116.far ?_ NB0_163.out _)|exact HI0.out))):g ≠ gb164));have n14_:=Aside0.mk ((by rw [hg];exact Nat.ne_of_gt (IsS116.lt (show IsS116 w0 _ g s0_0 x1001_1 x1002_1 from by repeat (first|(with_reducible first|exact HI0.out|apply IsS116.alloc|apply IsS116.drewN|apply IsS116.drew|apply IsS116.set_1|apply IsS116.set_2|refine IsS116.far ?_ NB0_159.out _|refine IsS116.far ?_ NB0_163.out _)|exact HI0.out))):gb164 ≠ g));clear HO_164001;clear BK159;clear BK163;clear HI0;clear HK;clear HB;have HO_164001:=n0_;have BK159:=n1_;have BK163:=n2_;have HI0:=n3_;have HK:=n4_;have HB:=n5_;have BK164:=n6_;have GW164:=n7_;have GE164:=n8_;have NB159_164:=n9_;have NB164_159:=n10_;have NB163_164:=n11_;have NB164_163:=n12_;have NB0_164:=n13_;have NB164_0:=n14_;clear n0_ n1_ n2_ n3_ n4_ n5_ n6_ n7_ n8_ n9_ n10_ n11_ n12_ n13_ n14_;clear hb hbox hg;have hnb33:=NB164_159.out;have hnc33:=NB159_164.out;have hnb34:=NB164_163.out;have hnc34:=NB163_164.out;have hnb35:=NB164_0.out;have hnc35:=NB0_164.out;have hcz36_0:w32.cell? ⟨gb164,0,none⟩=some (.int .i64 0):=(blk_cell BK164.out 0).trans rfl;have hcz36_1:w32.cell? ⟨gb164,1,none⟩=some (.int .i64 0):=(blk_cell BK164.out 1).trans rfl;have hfz36_0:=blk_frozen BK164.out 0;have hfz36_1:=blk_frozen BK164.out 1;have hcz37_0:w32.cell? ⟨gb163,0,none⟩=some (.int .i64 (wrap64 (1+t160))):=(blk_cell BK163.out 0).trans rfl;have hcz37_1:w32.cell? ⟨gb163,1,none⟩=some (u164001):=(blk_cell BK163.out 1).trans rfl;have hfz37_0:=blk_frozen BK163.out 0;have hfz37_1:=blk_frozen BK163.out 1)|((with_reducible refine gate_callee (f:=108) rfl ?_);refine goesL_ (some 29) rfl rfl Try.func108 (by kernel_rfl) rfl #[.pointer (some ⟨g,0,none⟩),.int .i64 12] rfl (by (try simp only [List.map_toArray,List.map_cons,List.map_nil]);first|done|rfl|(simp only [List.length_drop,List.length_take];rfl)) ?_;(with_reducible refine (spec_l5Cur_pick.calls g s0_0 x1001_1 x1002_1 12 t165 t166 t167 w0 _ ?side1 ?side2 A11.out).mono ?_);(case side1=>repeat (first|(with_reducible first|exact HI0.out|apply IsS116.alloc|apply IsS116.drewN|apply IsS116.drew|apply IsS116.set_1|apply IsS116.set_2|refine IsS116.far ?_ NB0_159.out _|refine IsS116.far ?_ NB0_163.out _|refine IsS116.far ?_ NB0_164.out _)|exact HI0.out));(case side2=>repeat (first|(with_reducible first|exact HB.out|apply below_alloc|apply pw_below_drewN|apply below_drew1|refine below_set ?_ (IsS116.ge HI0.out)|refine below_set ?_ GE159.out|refine below_set ?_ GE163.out|refine below_set ?_ GE164.out)|exact HB.out));rintro e w38 ⟨rfl,hi,hb,hk⟩;refine ⟨_,rfl,?_⟩;have n0_:=Aside0.mk (Kd.R_mono (Kd.R_keep (IsS116.apart (show IsS116 w0 _ g s0_0 x1001_1 x1002_1 from by repeat (first|(with_reducible first|exact HI0.out|apply IsS116.alloc|apply IsS116.drewN|apply IsS116.drew|apply IsS116.set_1|apply IsS116.set_2|refine IsS116.far ?_ NB0_159.out _|refine IsS116.far ?_ NB0_163.out _|refine IsS116.far ?_ NB0_164.out _)|exact HI0.out)) (by (with_reducible repeat (first|apply Kd.R_alloc|apply Kd.R_drewN|apply Kd.R_drew));exact (Kd.R_mono (Kd.R_far (p:=⟨gb164,1,none⟩) (Kd.R_far (p:=⟨gb164,1,none⟩) (Kd.R_far (p:=⟨gb164,0,none⟩) (Kd.R_mono HO_164001.out (fun k_ hk=>(⟨hk,hk.2⟩:_∧k_ ≠ gb164))) (fun _ hk=>hk.2) (.int .i64 (wrap64 (x4_1 - 1)))) (fun _ hk=>hk.2) (.int .i64 x4_1)) (fun _ hk=>hk.2) (.int .i64 (-1))) (fun _ h_=>h_.1))) (by decide)) hk (fun _ h=>h.2)) (fun _ h=>h.1));have n1_:=Aside0.mk (KeepBut.blk hk (g':=gb159) (o:=.cells #[.int .i64 0,.slice none 0 0] 30 (0,0)) (by (with_reducible repeat (first|refine blk_drewN ?_ _|refine blk_drew ?_|refine blk_alloc ?_ _));refine blk_far ?_ NB159_164.out _;(with_reducible repeat (first|refine blk_drewN ?_ _|refine blk_drew ?_|refine blk_alloc ?_ _));refine blk_far ?_ NB159_164.out _;(with_reducible repeat (first|refine blk_drewN ?_ _|refine blk_drew ?_|refine blk_alloc ?_ _));refine blk_far ?_ NB159_164.out _;(with_reducible repeat (first|refine blk_drewN ?_ _|refine blk_drew ?_|refine blk_alloc ?_ _));exact BK159.out) NB159_0.out (by simp));have n2_:=Aside0.mk (KeepBut.blk hk (g':=gb163) (o:=.cells #[.int .i64 (wrap64 (1+t160)),u164001] 30 (0,0)) (by (with_reducible repeat (first|refine blk_drewN ?_ _|refine blk_drew ?_|refine blk_alloc ?_ _));refine blk_far ?_ NB163_164.out _;(with_reducible repeat (first|refine blk_drewN ?_ _|refine blk_drew ?_|refine blk_alloc ?_ _));refine blk_far ?_ NB163_164.out _;(with_reducible repeat (first|refine blk_drewN ?_ _|refine blk_drew ?_|refine blk_alloc ?_ _));refine blk_far ?_ NB163_164.out _;(with_reducible repeat (first|refine blk_drewN ?_ _|refine blk_drew ?_|refine blk_alloc ?_ _));exact BK163.out) NB163_0.out (by simp));have n3_:=Aside0.mk (KeepBut.blk hk (g':=gb164) (o:=.cells #[.int .i64 (wrap64 (x4_1 - 1)),.int .i64 (-1)] 88 (0,0)) (by (with_reducible repeat (first|refine blk_drewN ?_ _|refine blk_drew ?_|refine blk_alloc ?_ _));refine blk_put (cs:=#[.int .i64 (wrap64 (x4_1 - 1)),.int .i64 x4_1]) ?_ 1 _ rfl;(with_reducible repeat (first|refine blk_drewN ?_ _|refine blk_drew ?_|refine blk_alloc ?_ _));refine blk_put (cs:=#[.int .i64 (wrap64 (x4_1 - 1)),.int .i64 0]) ?_ 1 _ rfl;(with_reducible repeat (first|refine blk_drewN ?_ _|refine blk_drew ?_|refine blk_alloc ?_ _));refine blk_put (cs:=#[.int .i64 0,.int .i64 0]) ?_ 0 _ rfl;(with_reducible repeat (first|refine blk_drewN ?_ _|refine blk_drew ?_|refine blk_alloc ?_ _));exact BK164.out) NB164_0.out (by simp));have n4_:=Aside0.mk (KeepBut.trans (by repeat (first|(with_reducible first|exact HK.out|apply KeepBut.set_|apply keep_drewN|apply keep_drew|apply keep_alloc|refine keep_far ?_ GW159.out _|refine keep_far ?_ GW163.out _|refine keep_far ?_ GW164.out _)|exact HK.out)) hk (.inl rfl));have n5_:=Aside0.mk (hb);have n6_:=Aside0.mk (hi);clear HO_164001;clear BK159;clear BK163;clear BK164;clear HK;clear HB;clear HI0;have HO_164001:=n0_;have BK159:=n1_;have BK163:=n2_;have BK164:=n3_;have HK:=n4_;have HB:=n5_;have HI0:=n6_;clear n0_ n1_ n2_ n3_ n4_ n5_ n6_;(try clear hb);(try clear hb2);(try clear hk);(try clear hi)))
     go_roundg k1
     case measure=>have:=HK1.out;omega
     case rel=>exact ⟨(wrap64 (x4_1+1)),(t166),(t167),(x164001_1),(u164001),(by first|rfl|(simp;done)|(simp [*];done)),H',⟨by have:=HK1.out;omega⟩,⟨by (with_reducible repeat (first|apply Kd.R_alloc|apply Kd.R_drewN|apply Kd.R_drew));exact Kd.R_mono HO_164001.out (fun _ hk=>trivial)⟩,⟨by (with_reducible repeat (first|refine blk_drewN ?_ _|refine blk_drew ?_|refine blk_alloc ?_ _));exact BK159.out⟩,⟨by (with_reducible repeat (first|refine blk_drewN ?_ _|refine blk_drew ?_|refine blk_alloc ?_ _));exact BK163.out⟩,⟨by repeat (first|(with_reducible first|exact HI0.out|apply IsS116.alloc|apply IsS116.drewN|apply IsS116.drew|apply IsS116.set_1|apply IsS116.set_2|refine IsS116.far ?_ NB0_159.out _|refine IsS116.far ?_ NB0_163.out _|refine IsS116.far ?_ NB0_164.out _)|exact HI0.out)⟩,⟨by repeat (first|(with_reducible first|exact HK.out|apply KeepBut.set_|apply keep_drewN|apply keep_drew|apply keep_alloc|refine keep_far ?_ GW159.out _|refine keep_far ?_ GW163.out _|refine keep_far ?_ GW164.out _)|exact HK.out)⟩,⟨by repeat (first|(with_reducible first|exact HB.out|apply below_alloc|apply pw_below_drewN|apply below_drew1|refine below_set ?_ (IsS116.ge HI0.out)|refine below_set ?_ GE159.out|refine below_set ?_ GE163.out|refine below_set ?_ GE164.out)|exact HB.out)⟩⟩
    rw [if_neg c10] at H
    have c10b0:(x4_1==(wrap64 (1+t160)))=false:=beq_eq_false_iff_ne.mpr c10
    have c10b1:(x4_1 != (wrap64 (1+t160)))=true:=bne_iff_ne.mpr c10
    replace H:=Option.bind_eq_some_iff.mp H
    obtain ⟨⟨t171,t172,t173⟩,A390,H⟩:=H
    replace H:(if t171 > 0 then (if x164001_1.length<8796093022208 then (spec_l5Cur_layout.l0 k1 (wrap64 (x4_1+1)) s0_0 t172 t173 (wrap64 (1+t160)) (x164001_1 ++ [(⟨wrap64 (x4_1 - 1),x4_1⟩:S88)])) else (none)) else (spec_l5Cur_layout.l0 k1 (wrap64 (x4_1+1)) s0_0 t172 t173 (wrap64 (1+t160)) x164001_1))=some (r1,r2,r3,r4):=H
    have A39:=Aside0.mk A390
    clear A390
    by_cases c40:t171 > 0
    ·rw [if_pos c40] at H
     have c40b0:decide (0<t171)=true:=decide_eq_true c40
     clear c40
     by_cases c41:x164001_1.length<8796093022208
     ·rw [if_pos c41] at H
      have LMc41:=Aside0.mk c41
      clear c41
      obtain ⟨y174,hy174⟩:∃ y_:List (S88),y_=(x164001_1 ++ [(⟨wrap64 (x4_1 - 1),x4_1⟩:S88)]):=⟨_,rfl⟩
      replace H:(spec_l5Cur_layout.l0 k1 (wrap64 (x4_1+1)) s0_0 t172 t173 (wrap64 (1+t160)) y174)=some (r1,r2,r3,r4):=by first|(rw [hy174];with_reducible exact H)|(have H2_:=(Option.bind_some _ _).symm.trans H;rw [hy174];with_reducible exact H2_)|(have H2_:=(Option.bind_some _ _).symm.trans H;with_reducible exact H2_)|with_reducible exact H|(rw [hy174];exact H)|exact H
      have Ny174:=Aside0.mk hy174
      clear hy174
      have H':=Aside0.mk H
      clear H
      have hnb42:=NB163_159.out
      have hnc42:=NB159_163.out
      have hnb43:=NB163_0.out
      have hnc43:=NB0_163.out
      have hcz44_0:wr.cell? ⟨gb163,0,none⟩=some (.int .i64 (wrap64 (1+t160))):=(blk_cell BK163.out 0).trans rfl
      have hcz44_1:wr.cell? ⟨gb163,1,none⟩=some (u164001):=(blk_cell BK163.out 1).trans rfl
      have hfz44_0:=blk_frozen BK163.out 0
      have hfz44_1:=blk_frozen BK163.out 1
      go_wp2_with (first|((with_reducible refine gate_dst (N:=5) rfl ?_);refine box_event ?hg (N:=5) ?hd (cs:=#[.int .i64 0,.int .i64 0]) (t:=88) ?hr ?_;(case hd=>rfl);(case hg=>rfl);(case hr=>first|(go_simp;done)|(go_simp;rfl));intro gb164 hg w45 hbox hb;have n0_:=Aside0.mk (Kd.R_below (Kd.R_elderB (by (with_reducible repeat (first|apply Kd.R_alloc|apply Kd.R_drewN|apply Kd.R_drew));exact HO_164001.out) gb164 (Nat.le_of_eq hg.symm)) hb);have n1_:=Aside0.mk (blk_below (g:=gb159) (o:=.cells #[.int .i64 0,.slice none 0 0] 30 (0,0)) (by (with_reducible repeat (first|refine blk_drewN ?_ _|refine blk_drew ?_|refine blk_alloc ?_ _));exact BK159.out) hb);have n2_:=Aside0.mk (blk_below (g:=gb163) (o:=.cells #[.int .i64 (wrap64 (1+t160)),u164001] 30 (0,0)) (by (with_reducible repeat (first|refine blk_drewN ?_ _|refine blk_drew ?_|refine blk_alloc ?_ _));exact BK163.out) hb);have n3_:=Aside0.mk (IsS116.below (by repeat (first|(with_reducible first|exact HI0.out|apply IsS116.alloc|apply IsS116.drewN|apply IsS116.drew|apply IsS116.set_1|apply IsS116.set_2|refine IsS116.far ?_ NB0_159.out _|refine IsS116.far ?_ NB0_163.out _)|exact HI0.out)) hb);have n4_:=Aside0.mk (KeepBut.trans (by repeat (first|(with_reducible first|exact HK.out|apply KeepBut.set_|apply keep_drewN|apply keep_drew|apply keep_alloc|refine keep_far ?_ GW159.out _|refine keep_far ?_ GW163.out _)|exact HK.out)) (KeepBut.of_below hb g none) (.inl rfl));have n5_:=Aside0.mk (below_step (by repeat (first|(with_reducible first|exact HB.out|apply below_alloc|apply pw_below_drewN|apply below_drew1|refine below_set ?_ (IsS116.ge HI0.out)|refine below_set ?_ GE159.out|refine below_set ?_ GE163.out)|exact HB.out)) hb);have n6_:=Aside0.mk (hbox);have n7_:=Aside0.mk ((by rw [hg];exact (keep_size (w:=w) (g:=g) (row:=none) (by repeat (first|(with_reducible first|exact HK.out|apply KeepBut.set_|apply keep_drewN|apply keep_drew|apply keep_alloc|refine keep_far ?_ GW159.out _|refine keep_far ?_ GW163.out _)|exact HK.out))):w.heap.size≤gb164));have n8_:=Aside0.mk ((Nat.le_trans HW0.out (by rw [hg];exact (keep_size (w:=w) (g:=g) (row:=none) (by repeat (first|(with_reducible first|exact HK.out|apply KeepBut.set_|apply keep_drewN|apply keep_drew|apply keep_alloc|refine keep_far ?_ GW159.out _|refine keep_far ?_ GW163.out _)|exact HK.out))):w.heap.size≤gb164):w0.heap.size≤gb164));have n9_:=Aside0.mk ((by rw [hg];exact Nat.ne_of_lt (blk_lt (g:=gb159) (o:=.cells #[.int .i64 0,.slice none 0 0] 30 (0,0)) (by (with_reducible repeat (first|refine blk_drewN ?_ _|refine blk_drew ?_|refine blk_alloc ?_ _));exact BK159.out)):gb159 ≠ gb164));have n10_:=Aside0.mk ((by rw [hg];exact Nat.ne_of_gt (blk_lt (g:=gb159) (o:=.cells #[.int .i64 0,.slice none 0 0] 30 (0,0)) (by (with_reducible repeat (first|refine blk_drewN ?_ _|refine blk_drew ?_|refine blk_alloc ?_ _));exact BK159.out)):gb164 ≠ gb159));have n11_:=Aside0.mk ((by rw [hg];exact Nat.ne_of_lt (blk_lt (g:=gb163) (o:=.cells #[.int .i64 (wrap64 (1+t160)),u164001] 30 (0,0)) (by (with_reducible repeat (first|refine blk_drewN ?_ _|refine blk_drew ?_|refine blk_alloc ?_ _));exact BK163.out)):gb163 ≠ gb164));have n12_:=Aside0.mk ((by rw [hg];exact Nat.ne_of_gt (blk_lt (g:=gb163) (o:=.cells #[.int .i64 (wrap64 (1+t160)),u164001] 30 (0,0)) (by (with_reducible repeat (first|refine blk_drewN ?_ _|refine blk_drew ?_|refine blk_alloc ?_ _));exact BK163.out)):gb164 ≠ gb163));have n13_:=Aside0.mk ((by rw [hg];exact Nat.ne_of_lt (IsS116.lt (show IsS116 w0 _ g s0_0 x1001_1 x1002_1 from by repeat (first|(with_reducible first|exact HI0.out|apply IsS116.alloc|apply IsS116.drewN|apply IsS116.drew|apply IsS116.set_1|apply IsS116.set_2|refine IsS116.far ?_ NB0_159.out _|refine IsS116.far ?_ NB0_163.out _)|exact HI0.out))):g ≠ gb164));have n14_:=Aside0.mk ((by rw [hg];exact Nat.ne_of_gt (IsS116.lt (show IsS116 w0 _ g s0_0 x1001_1 x1002_1 from by repeat (first|(with_reducible first|exact HI0.out|apply IsS116.alloc|apply IsS116.drewN|apply IsS116.drew|apply IsS116.set_1|apply IsS116.set_2|refine IsS116.far ?_ NB0_159.out _|refine IsS116.far ?_ NB0_163.out _)|exact HI0.out))):gb164 ≠ g));clear HO_164001;clear BK159;clear BK163;clear HI0;clear HK;clear HB;have HO_164001:=n0_;have BK159:=n1_;have BK163:=n2_;have HI0:=n3_;have HK:=n4_;have HB:=n5_;have BK164:=n6_;have GW164:=n7_;have GE164:=n8_;have NB159_164:=n9_;have NB164_159:=n10_;have NB163_164:=n11_;have NB164_163:=n12_;have NB0_164:=n13_;have NB164_0:=n14_;clear n0_ n1_ n2_ n3_ n4_ n5_ n6_ n7_ n8_ n9_ n10_ n11_ n12_ n13_ n14_;clear hb hbox hg;have hnb46:=NB164_159.out;have hnc46:=NB159_164.out;have hnb47:=NB164_163.out;have hnc47:=NB163_164.out;have hnb48:=NB164_0.out;have hnc48:=NB0_164.out;have hcz49_0:w45.cell? ⟨gb164,0,none⟩=some (.int .i64 0):=(blk_cell BK164.out 0).trans rfl;have hcz49_1:w45.cell? ⟨gb164,1,none⟩=some (.int .i64 0):=(blk_cell BK164.out 1).trans rfl;have hfz49_0:=blk_frozen BK164.out 0;have hfz49_1:=blk_frozen BK164.out 1;have hcz50_0:w45.cell? ⟨gb163,0,none⟩=some (.int .i64 (wrap64 (1+t160))):=(blk_cell BK163.out 0).trans rfl;have hcz50_1:w45.cell? ⟨gb163,1,none⟩=some (u164001):=(blk_cell BK163.out 1).trans rfl;have hfz50_0:=blk_frozen BK163.out 0;have hfz50_1:=blk_frozen BK163.out 1)|((with_reducible refine gate_callee (f:=108) rfl ?_);refine goesL_ (some 29) rfl rfl Try.func108 (by kernel_rfl) rfl #[.pointer (some ⟨g,0,none⟩),.int .i64 12] rfl (by (try simp only [List.map_toArray,List.map_cons,List.map_nil]);first|done|rfl|(simp only [List.length_drop,List.length_take];rfl)) ?_;(with_reducible refine (spec_l5Cur_pick.calls g s0_0 x1001_1 x1002_1 12 t171 t172 t173 w0 _ ?side1 ?side2 A39.out).mono ?_);(case side1=>repeat (first|(with_reducible first|exact HI0.out|apply IsS116.alloc|apply IsS116.drewN|apply IsS116.drew|apply IsS116.set_1|apply IsS116.set_2|refine IsS116.far ?_ NB0_159.out _|refine IsS116.far ?_ NB0_163.out _|refine IsS116.far ?_ NB0_164.out _)|exact HI0.out));(case side2=>repeat (first|(with_reducible first|exact HB.out|apply below_alloc|apply pw_below_drewN|apply below_drew1|refine below_set ?_ (IsS116.ge HI0.out)|refine below_set ?_ GE159.out|refine below_set ?_ GE163.out|refine below_set ?_ GE164.out)|exact HB.out));rintro e w51 ⟨rfl,hi,hb,hk⟩;refine ⟨_,rfl,?_⟩;have n0_:=Aside0.mk (Kd.R_mono (Kd.R_keep (IsS116.apart (show IsS116 w0 _ g s0_0 x1001_1 x1002_1 from by repeat (first|(with_reducible first|exact HI0.out|apply IsS116.alloc|apply IsS116.drewN|apply IsS116.drew|apply IsS116.set_1|apply IsS116.set_2|refine IsS116.far ?_ NB0_159.out _|refine IsS116.far ?_ NB0_163.out _|refine IsS116.far ?_ NB0_164.out _)|exact HI0.out)) (by (with_reducible repeat (first|apply Kd.R_alloc|apply Kd.R_drewN|apply Kd.R_drew));exact (Kd.R_mono (Kd.R_far (p:=⟨gb164,1,none⟩) (Kd.R_far (p:=⟨gb164,0,none⟩) (Kd.R_mono HO_164001.out (fun k_ hk=>(⟨hk,hk.2⟩:_∧k_ ≠ gb164))) (fun _ hk=>hk.2) (.int .i64 (wrap64 (x4_1 - 1)))) (fun _ hk=>hk.2) (.int .i64 x4_1)) (fun _ h_=>h_.1))) (by decide)) hk (fun _ h=>h.2)) (fun _ h=>h.1));have n1_:=Aside0.mk (KeepBut.blk hk (g':=gb159) (o:=.cells #[.int .i64 0,.slice none 0 0] 30 (0,0)) (by (with_reducible repeat (first|refine blk_drewN ?_ _|refine blk_drew ?_|refine blk_alloc ?_ _));refine blk_far ?_ NB159_164.out _;(with_reducible repeat (first|refine blk_drewN ?_ _|refine blk_drew ?_|refine blk_alloc ?_ _));refine blk_far ?_ NB159_164.out _;(with_reducible repeat (first|refine blk_drewN ?_ _|refine blk_drew ?_|refine blk_alloc ?_ _));exact BK159.out) NB159_0.out (by simp));have n2_:=Aside0.mk (KeepBut.blk hk (g':=gb163) (o:=.cells #[.int .i64 (wrap64 (1+t160)),u164001] 30 (0,0)) (by (with_reducible repeat (first|refine blk_drewN ?_ _|refine blk_drew ?_|refine blk_alloc ?_ _));refine blk_far ?_ NB163_164.out _;(with_reducible repeat (first|refine blk_drewN ?_ _|refine blk_drew ?_|refine blk_alloc ?_ _));refine blk_far ?_ NB163_164.out _;(with_reducible repeat (first|refine blk_drewN ?_ _|refine blk_drew ?_|refine blk_alloc ?_ _));exact BK163.out) NB163_0.out (by simp));have n3_:=Aside0.mk (KeepBut.blk hk (g':=gb164) (o:=.cells #[.int .i64 (wrap64 (x4_1 - 1)),.int .i64 x4_1] 88 (0,0)) (by (with_reducible repeat (first|refine blk_drewN ?_ _|refine blk_drew ?_|refine blk_alloc ?_ _));refine blk_put (cs:=#[.int .i64 (wrap64 (x4_1 - 1)),.int .i64 0]) ?_ 1 _ rfl;(with_reducible repeat (first|refine blk_drewN ?_ _|refine blk_drew ?_|refine blk_alloc ?_ _));refine blk_put (cs:=#[.int .i64 0,.int .i64 0]) ?_ 0 _ rfl;(with_reducible repeat (first|refine blk_drewN ?_ _|refine blk_drew ?_|refine blk_alloc ?_ _));exact BK164.out) NB164_0.out (by simp));have n4_:=Aside0.mk (KeepBut.trans (by repeat (first|(with_reducible first|exact HK.out|apply KeepBut.set_|apply keep_drewN|apply keep_drew|apply keep_alloc|refine keep_far ?_ GW159.out _|refine keep_far ?_ GW163.out _|refine keep_far ?_ GW164.out _)|exact HK.out)) hk (.inl rfl));have n5_:=Aside0.mk (hb);have n6_:=Aside0.mk (hi);clear HO_164001;clear BK159;clear BK163;clear BK164;clear HK;clear HB;clear HI0;have HO_164001:=n0_;have BK159:=n1_;have BK163:=n2_;have BK164:=n3_;have HK:=n4_;have HB:=n5_;have HI0:=n6_;clear n0_ n1_ n2_ n3_ n4_ n5_ n6_;(try clear hb);(try clear hb2);(try clear hk);(try clear hi);have hcz52_0:w51.cell? ⟨gb163,0,none⟩=some (.int .i64 (wrap64 (1+t160))):=(blk_cell BK163.out 0).trans rfl;have hcz52_1:w51.cell? ⟨gb163,1,none⟩=some (u164001):=(blk_cell BK163.out 1).trans rfl;have hfz52_0:=blk_frozen BK163.out 0;have hfz52_1:=blk_frozen BK163.out 1;have hcz53_0:w51.cell? ⟨gb164,0,none⟩=some (.int .i64 (wrap64 (x4_1 - 1))):=(blk_cell BK164.out 0).trans rfl;have hcz53_1:w51.cell? ⟨gb164,1,none⟩=some (.int .i64 x4_1):=(blk_cell BK164.out 1).trans rfl;have hfz53_0:=blk_frozen BK164.out 0;have hfz53_1:=blk_frozen BK164.out 1)|((with_reducible refine gate_builtin (b:=.append) (xs:=#[.tmp 32,.tmp 34]) rfl ?_);at_builtin;refine Kd.R_append k88 w.heap.size rfl (.tmp 32) (.tmp 34) 28 88 (.agg #[(.int .i64 0),(.int .i64 0)]) 16 rfl Try.underlying28 info88 rfl (by decide) (by omega) u164001 x164001_1 (⟨wrap64 (x4_1 - 1),x4_1⟩:S88) [.int .i64 (wrap64 (x4_1 - 1)),.int .i64 x4_1] (fun k_=>k_ ≠ gb164) (fun _=>False) rfl rfl ?aP (fun _ hk=>hk.elim) ?aF ?aO (Below.refl _ _) ?aS ?aL ?_;(case aP=>exact k88_mkM _ _ _ (⟨wrap64 (x4_1 - 1),x4_1⟩:S88));(case aF=>exact (fun k_ hk=>Kd.freshB (g:=gb164) (o:=.cells #[.int .i64 (wrap64 (x4_1 - 1)),.int .i64 x4_1] 88 (0,0)) (by (with_reducible repeat (first|refine blk_drewN ?_ _|refine blk_drew ?_|refine blk_alloc ?_ _));exact BK164.out) k_ hk));(case aO=>exact (by (with_reducible repeat (first|apply Kd.R_alloc|apply Kd.R_drewN|apply Kd.R_drew));exact Kd.R_mono HO_164001.out (fun _ hk=>hk.2)));(case aS=>exact (keep_size (w:=w) (g:=g) (row:=none) (by repeat (first|(with_reducible first|exact HK.out|apply KeepBut.set_|apply keep_drewN|apply keep_drew|apply keep_alloc|refine keep_far ?_ GW159.out _|refine keep_far ?_ GW163.out _|refine keep_far ?_ GW164.out _)|exact HK.out))));(case aL=>have:=LMc41.out;omega);intro v175 w54 ho hb hg hat;rw [← Ny174.out] at ho;have n0_:=Aside0.mk (blk_grown (g:=gb159) (o:=.cells #[.int .i64 0,.slice none 0 0] 30 (0,0)) (by (with_reducible repeat (first|refine blk_drewN ?_ _|refine blk_drew ?_|refine blk_alloc ?_ _));exact BK159.out) hg (Kd.R_ne HO_164001.out BK159.out (by decide)));have n1_:=Aside0.mk (blk_grown (g:=gb163) (o:=.cells #[.int .i64 (wrap64 (1+t160)),u164001] 30 (0,0)) (by (with_reducible repeat (first|refine blk_drewN ?_ _|refine blk_drew ?_|refine blk_alloc ?_ _));exact BK163.out) hg (Kd.R_ne HO_164001.out BK163.out (by decide)));have n2_:=Aside0.mk (IsS116.grown (by repeat (first|(with_reducible first|exact HI0.out|apply IsS116.alloc|apply IsS116.drewN|apply IsS116.drew|apply IsS116.set_1|apply IsS116.set_2|refine IsS116.far ?_ NB0_159.out _|refine IsS116.far ?_ NB0_163.out _|refine IsS116.far ?_ NB0_164.out _)|exact HI0.out)) hg (IsS116.own_ne HI0.out HO_164001.out (by decide)));have n3_:=Aside0.mk (blk_grown (g:=gb164) (o:=.cells #[.int .i64 (wrap64 (x4_1 - 1)),.int .i64 x4_1] 88 (0,0)) (by (with_reducible repeat (first|refine blk_drewN ?_ _|refine blk_drew ?_|refine blk_alloc ?_ _));exact BK164.out) hg (Kd.R_away HO_164001.out (fun _ hk=>hk.2)));have n4_:=Aside0.mk (below_weaken (by repeat (first|(with_reducible first|exact HB.out|apply below_alloc|apply pw_below_drewN|apply below_drew1|refine below_set ?_ (IsS116.ge HI0.out)|refine below_set ?_ GE159.out|refine below_set ?_ GE163.out|refine below_set ?_ GE164.out)|exact HB.out)) HL.out hb);have n5_:=Aside0.mk (KeepBut.trans (by repeat (first|(with_reducible first|exact HK.out|apply KeepBut.set_|apply keep_drewN|apply keep_drew|apply keep_alloc|refine keep_far ?_ GW159.out _|refine keep_far ?_ GW163.out _|refine keep_far ?_ GW164.out _)|exact HK.out)) (KeepBut.of_grown hg g) (Kd.R_base2 HO_164001.out));have n6_:=Aside0.mk (ho);clear BK159;clear BK163;clear HI0;clear BK164;clear HB;clear HK;clear HO_164001;have BK159:=n0_;have BK163:=n1_;have HI0:=n2_;have BK164:=n3_;have HB:=n4_;have HK:=n5_;have HO176:=n6_;clear n0_ n1_ n2_ n3_ n4_ n5_ n6_;clear ho hb hg hat;obtain ⟨Ao55,co55,eo55⟩:=Kd.R_slice HO176.out;subst eo55;have hcz56_0:w54.cell? ⟨gb163,0,none⟩=some (.int .i64 (wrap64 (1+t160))):=(blk_cell BK163.out 0).trans rfl;have hcz56_1:w54.cell? ⟨gb163,1,none⟩=some (u164001):=(blk_cell BK163.out 1).trans rfl;have hfz56_0:=blk_frozen BK163.out 0;have hfz56_1:=blk_frozen BK163.out 1))
      go_roundg k1
      case measure=>have:=HK1.out;omega
      case rel=>exact ⟨(wrap64 (x4_1+1)),(t172),(t173),(y174),(.slice Ao55 y174.length co55),(by first|rfl|(simp;done)|(simp [*];done)),H',⟨by have:=HK1.out;omega⟩,⟨by (with_reducible repeat (first|apply Kd.R_alloc|apply Kd.R_drewN|apply Kd.R_drew));exact Kd.R_mono (Kd.R_far (p:=⟨gb163,1,none⟩) (Kd.R_types HO176.out BK163.out (by decide)) (fun _ hk=>hk.2) (.slice Ao55 y174.length co55)) (fun _ hk=>trivial)⟩,⟨by (with_reducible repeat (first|refine blk_drewN ?_ _|refine blk_drew ?_|refine blk_alloc ?_ _));refine blk_far ?_ NB159_163.out _;(with_reducible repeat (first|refine blk_drewN ?_ _|refine blk_drew ?_|refine blk_alloc ?_ _));exact BK159.out⟩,⟨by (with_reducible repeat (first|refine blk_drewN ?_ _|refine blk_drew ?_|refine blk_alloc ?_ _));refine blk_put (cs:=#[.int .i64 (wrap64 (1+t160)),u164001]) ?_ 1 _ rfl;(with_reducible repeat (first|refine blk_drewN ?_ _|refine blk_drew ?_|refine blk_alloc ?_ _));exact BK163.out⟩,⟨by repeat (first|(with_reducible first|exact HI0.out|apply IsS116.alloc|apply IsS116.drewN|apply IsS116.drew|apply IsS116.set_1|apply IsS116.set_2|refine IsS116.far ?_ NB0_159.out _|refine IsS116.far ?_ NB0_163.out _|refine IsS116.far ?_ NB0_164.out _)|exact HI0.out)⟩,⟨by repeat (first|(with_reducible first|exact HK.out|apply KeepBut.set_|apply keep_drewN|apply keep_drew|apply keep_alloc|refine keep_far ?_ GW159.out _|refine keep_far ?_ GW163.out _|refine keep_far ?_ GW164.out _)|exact HK.out)⟩,⟨by repeat (first|(with_reducible first|exact HB.out|apply below_alloc|apply pw_below_drewN|apply below_drew1|refine below_set ?_ (IsS116.ge HI0.out)|refine below_set ?_ GE159.out|refine below_set ?_ GE163.out|refine below_set ?_ GE164.out)|exact HB.out)⟩⟩
     rw [if_neg c41] at H
     exact absurd H (by simp)
    rw [if_neg c40] at H
    have c40b0:decide (0<t171)=false:=decide_eq_false c40
    clear c40
    have H':=Aside0.mk H
    clear H
    have hnb57:=NB163_159.out
    have hnc57:=NB159_163.out
    have hnb58:=NB163_0.out
    have hnc58:=NB0_163.out
    have hcz59_0:wr.cell? ⟨gb163,0,none⟩=some (.int .i64 (wrap64 (1+t160))):=(blk_cell BK163.out 0).trans rfl
    have hcz59_1:wr.cell? ⟨gb163,1,none⟩=some (u164001):=(blk_cell BK163.out 1).trans rfl
    have hfz59_0:=blk_frozen BK163.out 0
    have hfz59_1:=blk_frozen BK163.out 1
    go_wp2_with (first|((with_reducible refine gate_dst (N:=5) rfl ?_);refine box_event ?hg (N:=5) ?hd (cs:=#[.int .i64 0,.int .i64 0]) (t:=88) ?hr ?_;(case hd=>rfl);(case hg=>rfl);(case hr=>first|(go_simp;done)|(go_simp;rfl));intro gb164 hg w60 hbox hb;have n0_:=Aside0.mk (Kd.R_below (Kd.R_elderB (by (with_reducible repeat (first|apply Kd.R_alloc|apply Kd.R_drewN|apply Kd.R_drew));exact HO_164001.out) gb164 (Nat.le_of_eq hg.symm)) hb);have n1_:=Aside0.mk (blk_below (g:=gb159) (o:=.cells #[.int .i64 0,.slice none 0 0] 30 (0,0)) (by (with_reducible repeat (first|refine blk_drewN ?_ _|refine blk_drew ?_|refine blk_alloc ?_ _));exact BK159.out) hb);have n2_:=Aside0.mk (blk_below (g:=gb163) (o:=.cells #[.int .i64 (wrap64 (1+t160)),u164001] 30 (0,0)) (by (with_reducible repeat (first|refine blk_drewN ?_ _|refine blk_drew ?_|refine blk_alloc ?_ _));exact BK163.out) hb);have n3_:=Aside0.mk (IsS116.below (by repeat (first|(with_reducible first|exact HI0.out|apply IsS116.alloc|apply IsS116.drewN|apply IsS116.drew|apply IsS116.set_1|apply IsS116.set_2|refine IsS116.far ?_ NB0_159.out _|refine IsS116.far ?_ NB0_163.out _)|exact HI0.out)) hb);have n4_:=Aside0.mk (KeepBut.trans (by repeat (first|(with_reducible first|exact HK.out|apply KeepBut.set_|apply keep_drewN|apply keep_drew|apply keep_alloc|refine keep_far ?_ GW159.out _|refine keep_far ?_ GW163.out _)|exact HK.out)) (KeepBut.of_below hb g none) (.inl rfl));have n5_:=Aside0.mk (below_step (by repeat (first|(with_reducible first|exact HB.out|apply below_alloc|apply pw_below_drewN|apply below_drew1|refine below_set ?_ (IsS116.ge HI0.out)|refine below_set ?_ GE159.out|refine below_set ?_ GE163.out)|exact HB.out)) hb);have n6_:=Aside0.mk (hbox);have n7_:=Aside0.mk ((by rw [hg];exact (keep_size (w:=w) (g:=g) (row:=none) (by repeat (first|(with_reducible first|exact HK.out|apply KeepBut.set_|apply keep_drewN|apply keep_drew|apply keep_alloc|refine keep_far ?_ GW159.out _|refine keep_far ?_ GW163.out _)|exact HK.out))):w.heap.size≤gb164));have n8_:=Aside0.mk ((Nat.le_trans HW0.out (by rw [hg];exact (keep_size (w:=w) (g:=g) (row:=none) (by repeat (first|(with_reducible first|exact HK.out|apply KeepBut.set_|apply keep_drewN|apply keep_drew|apply keep_alloc|refine keep_far ?_ GW159.out _|refine keep_far ?_ GW163.out _)|exact HK.out))):w.heap.size≤gb164):w0.heap.size≤gb164));have n9_:=Aside0.mk ((by rw [hg];exact Nat.ne_of_lt (blk_lt (g:=gb159) (o:=.cells #[.int .i64 0,.slice none 0 0] 30 (0,0)) (by (with_reducible repeat (first|refine blk_drewN ?_ _|refine blk_drew ?_|refine blk_alloc ?_ _));exact BK159.out)):gb159 ≠ gb164));have n10_:=Aside0.mk ((by rw [hg];exact Nat.ne_of_gt (blk_lt (g:=gb159) (o:=.cells #[.int .i64 0,.slice none 0 0] 30 (0,0)) (by (with_reducible repeat (first|refine blk_drewN ?_ _|refine blk_drew ?_|refine blk_alloc ?_ _));exact BK159.out)):gb164 ≠ gb159));have n11_:=Aside0.mk ((by rw [hg];exact Nat.ne_of_lt (blk_lt (g:=gb163) (o:=.cells #[.int .i64 (wrap64 (1+t160)),u164001] 30 (0,0)) (by (with_reducible repeat (first|refine blk_drewN ?_ _|refine blk_drew ?_|refine blk_alloc ?_ _));exact BK163.out)):gb163 ≠ gb164));have n12_:=Aside0.mk ((by rw [hg];exact Nat.ne_of_gt (blk_lt (g:=gb163) (o:=.cells #[.int .i64 (wrap64 (1+t160)),u164001] 30 (0,0)) (by (with_reducible repeat (first|refine blk_drewN ?_ _|refine blk_drew ?_|refine blk_alloc ?_ _));exact BK163.out)):gb164 ≠ gb163));have n13_:=Aside0.mk ((by rw [hg];exact Nat.ne_of_lt (IsS116.lt (show IsS116 w0 _ g s0_0 x1001_1 x1002_1 from by repeat (first|(with_reducible first|exact HI0.out|apply IsS116.alloc|apply IsS116.drewN|apply IsS116.drew|apply IsS116.set_1|apply IsS116.set_2|refine IsS116.far ?_ NB0_159.out _|refine IsS116.far ?_ NB0_163.out _)|exact HI0.out))):g ≠ gb164));have n14_:=Aside0.mk ((by rw [hg];exact Nat.ne_of_gt (IsS116.lt (show IsS116 w0 _ g s0_0 x1001_1 x1002_1 from by repeat (first|(with_reducible first|exact HI0.out|apply IsS116.alloc|apply IsS116.drewN|apply IsS116.drew|apply IsS116.set_1|apply IsS116.set_2|refine IsS116.far ?_ NB0_159.out _|refine IsS116.far ?_ NB0_163.out _)|exact HI0.out))):gb164 ≠ g));clear HO_164001;clear BK159;clear BK163;clear HI0;clear HK;clear HB;have HO_164001:=n0_;have BK159:=n1_;have BK163:=n2_;have HI0:=n3_;have HK:=n4_;have HB:=n5_;have BK164:=n6_;have GW164:=n7_;have GE164:=n8_;have NB159_164:=n9_;have NB164_159:=n10_;have NB163_164:=n11_;have NB164_163:=n12_;have NB0_164:=n13_;have NB164_0:=n14_;clear n0_ n1_ n2_ n3_ n4_ n5_ n6_ n7_ n8_ n9_ n10_ n11_ n12_ n13_ n14_;clear hb hbox hg;have hnb61:=NB164_159.out;have hnc61:=NB159_164.out;have hnb62:=NB164_163.out;have hnc62:=NB163_164.out;have hnb63:=NB164_0.out;have hnc63:=NB0_164.out;have hcz64_0:w60.cell? ⟨gb164,0,none⟩=some (.int .i64 0):=(blk_cell BK164.out 0).trans rfl;have hcz64_1:w60.cell? ⟨gb164,1,none⟩=some (.int .i64 0):=(blk_cell BK164.out 1).trans rfl;have hfz64_0:=blk_frozen BK164.out 0;have hfz64_1:=blk_frozen BK164.out 1;have hcz65_0:w60.cell? ⟨gb163,0,none⟩=some (.int .i64 (wrap64 (1+t160))):=(blk_cell BK163.out 0).trans rfl;have hcz65_1:w60.cell? ⟨gb163,1,none⟩=some (u164001):=(blk_cell BK163.out 1).trans rfl;have hfz65_0:=blk_frozen BK163.out 0;have hfz65_1:=blk_frozen BK163.out 1)|((with_reducible refine gate_callee (f:=108) rfl ?_);refine goesL_ (some 29) rfl rfl Try.func108 (by kernel_rfl) rfl #[.pointer (some ⟨g,0,none⟩),.int .i64 12] rfl (by (try simp only [List.map_toArray,List.map_cons,List.map_nil]);first|done|rfl|(simp only [List.length_drop,List.length_take];rfl)) ?_;(with_reducible refine (spec_l5Cur_pick.calls g s0_0 x1001_1 x1002_1 12 t171 t172 t173 w0 _ ?side1 ?side2 A39.out).mono ?_);(case side1=>repeat (first|(with_reducible first|exact HI0.out|apply IsS116.alloc|apply IsS116.drewN|apply IsS116.drew|apply IsS116.set_1|apply IsS116.set_2|refine IsS116.far ?_ NB0_159.out _|refine IsS116.far ?_ NB0_163.out _|refine IsS116.far ?_ NB0_164.out _)|exact HI0.out));(case side2=>repeat (first|(with_reducible first|exact HB.out|apply below_alloc|apply pw_below_drewN|apply below_drew1|refine below_set ?_ (IsS116.ge HI0.out)|refine below_set ?_ GE159.out|refine below_set ?_ GE163.out|refine below_set ?_ GE164.out)|exact HB.out));rintro e w66 ⟨rfl,hi,hb,hk⟩;refine ⟨_,rfl,?_⟩;have n0_:=Aside0.mk (Kd.R_mono (Kd.R_keep (IsS116.apart (show IsS116 w0 _ g s0_0 x1001_1 x1002_1 from by repeat (first|(with_reducible first|exact HI0.out|apply IsS116.alloc|apply IsS116.drewN|apply IsS116.drew|apply IsS116.set_1|apply IsS116.set_2|refine IsS116.far ?_ NB0_159.out _|refine IsS116.far ?_ NB0_163.out _|refine IsS116.far ?_ NB0_164.out _)|exact HI0.out)) (by (with_reducible repeat (first|apply Kd.R_alloc|apply Kd.R_drewN|apply Kd.R_drew));exact (Kd.R_mono (Kd.R_far (p:=⟨gb164,1,none⟩) (Kd.R_far (p:=⟨gb164,0,none⟩) (Kd.R_mono HO_164001.out (fun k_ hk=>(⟨hk,hk.2⟩:_∧k_ ≠ gb164))) (fun _ hk=>hk.2) (.int .i64 (wrap64 (x4_1 - 1)))) (fun _ hk=>hk.2) (.int .i64 x4_1)) (fun _ h_=>h_.1))) (by decide)) hk (fun _ h=>h.2)) (fun _ h=>h.1));have n1_:=Aside0.mk (KeepBut.blk hk (g':=gb159) (o:=.cells #[.int .i64 0,.slice none 0 0] 30 (0,0)) (by (with_reducible repeat (first|refine blk_drewN ?_ _|refine blk_drew ?_|refine blk_alloc ?_ _));refine blk_far ?_ NB159_164.out _;(with_reducible repeat (first|refine blk_drewN ?_ _|refine blk_drew ?_|refine blk_alloc ?_ _));refine blk_far ?_ NB159_164.out _;(with_reducible repeat (first|refine blk_drewN ?_ _|refine blk_drew ?_|refine blk_alloc ?_ _));exact BK159.out) NB159_0.out (by simp));have n2_:=Aside0.mk (KeepBut.blk hk (g':=gb163) (o:=.cells #[.int .i64 (wrap64 (1+t160)),u164001] 30 (0,0)) (by (with_reducible repeat (first|refine blk_drewN ?_ _|refine blk_drew ?_|refine blk_alloc ?_ _));refine blk_far ?_ NB163_164.out _;(with_reducible repeat (first|refine blk_drewN ?_ _|refine blk_drew ?_|refine blk_alloc ?_ _));refine blk_far ?_ NB163_164.out _;(with_reducible repeat (first|refine blk_drewN ?_ _|refine blk_drew ?_|refine blk_alloc ?_ _));exact BK163.out) NB163_0.out (by simp));have n3_:=Aside0.mk (KeepBut.blk hk (g':=gb164) (o:=.cells #[.int .i64 (wrap64 (x4_1 - 1)),.int .i64 x4_1] 88 (0,0)) (by (with_reducible repeat (first|refine blk_drewN ?_ _|refine blk_drew ?_|refine blk_alloc ?_ _));refine blk_put (cs:=#[.int .i64 (wrap64 (x4_1 - 1)),.int .i64 0]) ?_ 1 _ rfl;(with_reducible repeat (first|refine blk_drewN ?_ _|refine blk_drew ?_|refine blk_alloc ?_ _));refine blk_put (cs:=#[.int .i64 0,.int .i64 0]) ?_ 0 _ rfl;(with_reducible repeat (first|refine blk_drewN ?_ _|refine blk_drew ?_|refine blk_alloc ?_ _));exact BK164.out) NB164_0.out (by simp));have n4_:=Aside0.mk (KeepBut.trans (by repeat (first|(with_reducible first|exact HK.out|apply KeepBut.set_|apply keep_drewN|apply keep_drew|apply keep_alloc|refine keep_far ?_ GW159.out _|refine keep_far ?_ GW163.out _|refine keep_far ?_ GW164.out _)|exact HK.out)) hk (.inl rfl));have n5_:=Aside0.mk (hb);have n6_:=Aside0.mk (hi);clear HO_164001;clear BK159;clear BK163;clear BK164;clear HK;clear HB;clear HI0;have HO_164001:=n0_;have BK159:=n1_;have BK163:=n2_;have BK164:=n3_;have HK:=n4_;have HB:=n5_;have HI0:=n6_;clear n0_ n1_ n2_ n3_ n4_ n5_ n6_;(try clear hb);(try clear hb2);(try clear hk);(try clear hi)))
    go_roundg k1
    case measure=>have:=HK1.out;omega
    case rel=>exact ⟨(wrap64 (x4_1+1)),(t172),(t173),(x164001_1),(u164001),(by first|rfl|(simp;done)|(simp [*];done)),H',⟨by have:=HK1.out;omega⟩,⟨by (with_reducible repeat (first|apply Kd.R_alloc|apply Kd.R_drewN|apply Kd.R_drew));exact Kd.R_mono HO_164001.out (fun _ hk=>trivial)⟩,⟨by (with_reducible repeat (first|refine blk_drewN ?_ _|refine blk_drew ?_|refine blk_alloc ?_ _));exact BK159.out⟩,⟨by (with_reducible repeat (first|refine blk_drewN ?_ _|refine blk_drew ?_|refine blk_alloc ?_ _));exact BK163.out⟩,⟨by repeat (first|(with_reducible first|exact HI0.out|apply IsS116.alloc|apply IsS116.drewN|apply IsS116.drew|apply IsS116.set_1|apply IsS116.set_2|refine IsS116.far ?_ NB0_159.out _|refine IsS116.far ?_ NB0_163.out _|refine IsS116.far ?_ NB0_164.out _)|exact HI0.out)⟩,⟨by repeat (first|(with_reducible first|exact HK.out|apply KeepBut.set_|apply keep_drewN|apply keep_drew|apply keep_alloc|refine keep_far ?_ GW159.out _|refine keep_far ?_ GW163.out _|refine keep_far ?_ GW164.out _)|exact HK.out)⟩,⟨by repeat (first|(with_reducible first|exact HB.out|apply below_alloc|apply pw_below_drewN|apply below_drew1|refine below_set ?_ (IsS116.ge HI0.out)|refine below_set ?_ GE159.out|refine below_set ?_ GE163.out|refine below_set ?_ GE164.out)|exact HB.out)⟩⟩
   rw [if_neg c9] at H
   have c9b0:decide (x4_1≤(wrap64 (1+t160)))=false:=decide_eq_false c9
   clear c9
   replace H:=Option.bind_eq_some_iff.mp H
   obtain ⟨⟨t177,t178,t179⟩,A670,H⟩:=H
   replace H:(spec_l5Cur_layout.l1 k1 t177 s0_0 t178 t179 (wrap64 (1+t160)) x164001_1)=some (r1,r2,r3,r4):=H
   have A67:=Aside0.mk A670
   clear A670
   have H':=Aside0.mk H
   clear H
   have hnb68:=NB163_159.out
   have hnc68:=NB159_163.out
   have hnb69:=NB163_0.out
   have hnc69:=NB0_163.out
   have hcz70_0:wr.cell? ⟨gb163,0,none⟩=some (.int .i64 (wrap64 (1+t160))):=(blk_cell BK163.out 0).trans rfl
   have hcz70_1:wr.cell? ⟨gb163,1,none⟩=some (u164001):=(blk_cell BK163.out 1).trans rfl
   have hfz70_0:=blk_frozen BK163.out 0
   have hfz70_1:=blk_frozen BK163.out 1
   go_wp2_with (first|((with_reducible refine gate_callee (f:=108) rfl ?_);refine goesL_ (some 38) rfl rfl Try.func108 (by kernel_rfl) rfl #[.pointer (some ⟨g,0,none⟩),.int .i64 3] rfl (by (try simp only [List.map_toArray,List.map_cons,List.map_nil]);first|done|rfl|(simp only [List.length_drop,List.length_take];rfl)) ?_;(with_reducible refine (spec_l5Cur_pick.calls g s0_0 x1001_1 x1002_1 3 t177 t178 t179 w0 _ ?side1 ?side2 A67.out).mono ?_);(case side1=>repeat (first|(with_reducible first|exact HI0.out|apply IsS116.alloc|apply IsS116.drewN|apply IsS116.drew|apply IsS116.set_1|apply IsS116.set_2|refine IsS116.far ?_ NB0_159.out _|refine IsS116.far ?_ NB0_163.out _)|exact HI0.out));(case side2=>repeat (first|(with_reducible first|exact HB.out|apply below_alloc|apply pw_below_drewN|apply below_drew1|refine below_set ?_ (IsS116.ge HI0.out)|refine below_set ?_ GE159.out|refine below_set ?_ GE163.out)|exact HB.out));rintro e w71 ⟨rfl,hi,hb,hk⟩;refine ⟨_,rfl,?_⟩;have n0_:=Aside0.mk (Kd.R_mono (Kd.R_keep (IsS116.apart (show IsS116 w0 _ g s0_0 x1001_1 x1002_1 from by repeat (first|(with_reducible first|exact HI0.out|apply IsS116.alloc|apply IsS116.drewN|apply IsS116.drew|apply IsS116.set_1|apply IsS116.set_2|refine IsS116.far ?_ NB0_159.out _|refine IsS116.far ?_ NB0_163.out _)|exact HI0.out)) (by (with_reducible repeat (first|apply Kd.R_alloc|apply Kd.R_drewN|apply Kd.R_drew));exact HO_164001.out) (by decide)) hk (fun _ h=>h.2)) (fun _ h=>h.1));have n1_:=Aside0.mk (KeepBut.blk hk (g':=gb159) (o:=.cells #[.int .i64 0,.slice none 0 0] 30 (0,0)) (by (with_reducible repeat (first|refine blk_drewN ?_ _|refine blk_drew ?_|refine blk_alloc ?_ _));exact BK159.out) NB159_0.out (by simp));have n2_:=Aside0.mk (KeepBut.blk hk (g':=gb163) (o:=.cells #[.int .i64 (wrap64 (1+t160)),u164001] 30 (0,0)) (by (with_reducible repeat (first|refine blk_drewN ?_ _|refine blk_drew ?_|refine blk_alloc ?_ _));exact BK163.out) NB163_0.out (by simp));have n3_:=Aside0.mk (KeepBut.trans (by repeat (first|(with_reducible first|exact HK.out|apply KeepBut.set_|apply keep_drewN|apply keep_drew|apply keep_alloc|refine keep_far ?_ GW159.out _|refine keep_far ?_ GW163.out _)|exact HK.out)) hk (.inl rfl));have n4_:=Aside0.mk (hb);have n5_:=Aside0.mk (hi);clear HO_164001;clear BK159;clear BK163;clear HK;clear HB;clear HI0;have HO_164001:=n0_;have BK159:=n1_;have BK163:=n2_;have HK:=n3_;have HB:=n4_;have HI0:=n5_;clear n0_ n1_ n2_ n3_ n4_ n5_;(try clear hb);(try clear hb2);(try clear hk);(try clear hi)))
   go_loopg [6] k1 (fun kq v6 w'=>∃ (x6_2:Int) (x1001_2:Int) (x1002_2:Int) (x164001_2:List (S88)) (u164001:Value),v6=.int .i64 x6_2∧Aside0 (spec_l5Cur_layout.l1 kq x6_2 s0_0 x1001_2 x1002_2 (wrap64 (1+t160)) x164001_2=some (r1,r2,r3,r4))∧Aside0 (kq≤k1)∧Aside0 (Kd.R k88 88 w' w.heap.size (fun _=>True) u164001 x164001_2)∧Aside0 (w'.heap[gb159]?=some (.cells #[.int .i64 0,(.slice none 0 0)] 30 (0,0)))∧Aside0 (w'.heap[gb163]?=some (.cells #[.int .i64 (wrap64 (1+t160)),u164001] 30 (0,0)))∧Aside0 (IsS116 w0 w' g s0_0 x1001_2 x1002_2)∧Aside0 (KeepBut w w' g none)∧Aside0 (Below w0.heap.size w0 w'))
   case atStart=>exact ⟨(t177),(t178),(t179),(x164001_1),(u164001),(by first|rfl|(simp;done)|(simp [*];done)),H',⟨Nat.le_refl _⟩,⟨by (with_reducible repeat (first|apply Kd.R_alloc|apply Kd.R_drewN|apply Kd.R_drew));exact HO_164001.out⟩,⟨by (with_reducible repeat (first|refine blk_drewN ?_ _|refine blk_drew ?_|refine blk_alloc ?_ _));exact BK159.out⟩,⟨by (with_reducible repeat (first|refine blk_drewN ?_ _|refine blk_drew ?_|refine blk_alloc ?_ _));exact BK163.out⟩,⟨by repeat (first|(with_reducible first|exact HI0.out|apply IsS116.alloc|apply IsS116.drewN|apply IsS116.drew|apply IsS116.set_1|apply IsS116.set_2|refine IsS116.far ?_ NB0_159.out _|refine IsS116.far ?_ NB0_163.out _)|exact HI0.out)⟩,⟨by repeat (first|(with_reducible first|exact HK.out|apply KeepBut.set_|apply keep_drewN|apply keep_drew|apply keep_alloc|refine keep_far ?_ GW159.out _|refine keep_far ?_ GW163.out _)|exact HK.out)⟩,⟨by repeat (first|(with_reducible first|exact HB.out|apply below_alloc|apply pw_below_drewN|apply below_drew1|refine below_set ?_ (IsS116.ge HI0.out)|refine below_set ?_ GE159.out|refine below_set ?_ GE163.out)|exact HB.out)⟩⟩
   case round =>
    clear H'
    try clear c1
    try clear c2
    try clear p2
    try clear c3
    try clear c4
    try clear c5
    try clear c6
    try clear p6
    try clear c7
    try clear c9
    try clear c9b0
    try clear c10
    try clear c10b0
    try clear c10b1
    try clear c12
    try clear c12b0
    try clear c13
    try clear c14
    try clear c15
    try clear c18
    try clear c19
    try clear c20
    try clear c29
    try clear c30
    try clear c33
    try clear c34
    try clear c35
    try clear c40
    try clear c40b0
    try clear c41
    try clear c42
    try clear c43
    try clear c46
    try clear c47
    try clear c48
    try clear c57
    try clear c58
    try clear c61
    try clear c62
    try clear c63
    try clear p64
    try clear c68
    try clear c69
    try clear hcz16_0
    try clear hcz16_1
    try clear hcz21_0
    try clear hcz21_1
    try clear hcz22_0
    try clear hcz22_1
    try clear hcz24_0
    try clear hcz24_1
    try clear hcz25_0
    try clear hcz25_1
    try clear hcz28_0
    try clear hcz28_1
    try clear hcz31_0
    try clear hcz31_1
    try clear hcz36_0
    try clear hcz36_1
    try clear hcz37_0
    try clear hcz37_1
    try clear hcz44_0
    try clear hcz44_1
    try clear hcz49_0
    try clear hcz49_1
    try clear hcz50_0
    try clear hcz50_1
    try clear hcz52_0
    try clear hcz52_1
    try clear hcz53_0
    try clear hcz53_1
    try clear hcz56_0
    try clear hcz56_1
    try clear hcz59_0
    try clear hcz59_1
    try clear hcz64_0
    try clear hcz64_1
    try clear hcz65_0
    try clear hcz65_1
    try clear hcz70_0
    try clear hcz70_1
    try clear hcz8_0
    try clear hcz8_1
    try clear hfz16_0
    try clear hfz16_1
    try clear hfz21_0
    try clear hfz21_1
    try clear hfz22_0
    try clear hfz22_1
    try clear hfz24_0
    try clear hfz24_1
    try clear hfz25_0
    try clear hfz25_1
    try clear hfz28_0
    try clear hfz28_1
    try clear hfz31_0
    try clear hfz31_1
    try clear hfz36_0
    try clear hfz36_1
    try clear hfz37_0
    try clear hfz37_1
    try clear hfz44_0
    try clear hfz44_1
    try clear hfz49_0
    try clear hfz49_1
    try clear hfz50_0
    try clear hfz50_1
    try clear hfz52_0
    try clear hfz52_1
    try clear hfz53_0
    try clear hfz53_1
    try clear hfz56_0
    try clear hfz56_1
    try clear hfz59_0
    try clear hfz59_1
    try clear hfz64_0
    try clear hfz64_1
    try clear hfz65_0
    try clear hfz65_1
    try clear hfz70_0
    try clear hfz70_1
    try clear hfz8_0
    try clear hfz8_1
    try clear p2
    try clear p6
    obtain ⟨x6_2,x1001_2,x1002_2,x164001_2,u164001,rfl,HA,HK2,HO_164001,BK159,BK163,HI0,HK,HB⟩:=hrel
    cases gk with
    | zero=>exact absurd HA.out (by simp [spec_l5Cur_layout.l1])
    | succ k2 =>
     have H:=HA.out
     clear HA
     simp only [spec_l5Cur_layout.l1] at H
     by_cases c72:x6_2 > 0
     ·rw [if_pos c72] at H
      have c72b0:decide (0<x6_2)=true:=decide_eq_true c72
      clear c72
      replace H:=Option.bind_eq_some_iff.mp H
      obtain ⟨⟨t180,t181,t182⟩,A730,H⟩:=H
      replace H:((spec_l5Cur_pick.f s0_0 t181 t182 (wrap64 ((wrap64 (1+t160))+1))).bind fun bt183=>(if (wrap64 (t180 - 1))=(wrap64 (bt183.1 - 1)) then (spec_l5Cur_layout.l1 k2 (wrap64 (x6_2 - 1)) s0_0 bt183.2.1 bt183.2.2 (wrap64 (1+t160)) x164001_2) else (if x164001_2.length<8796093022208 then (spec_l5Cur_layout.l1 k2 (wrap64 (x6_2 - 1)) s0_0 bt183.2.1 bt183.2.2 (wrap64 (1+t160)) (x164001_2 ++ [(⟨wrap64 (t180 - 1),wrap64 (bt183.1 - 1)⟩:S88)])) else (none))))=some (r1,r2,r3,r4):=H
      have A73:=Aside0.mk A730
      clear A730
      replace H:=Option.bind_eq_some_iff.mp H
      obtain ⟨⟨t183,t184,t185⟩,A740,H⟩:=H
      replace H:(if (wrap64 (t180 - 1))=(wrap64 (t183 - 1)) then (spec_l5Cur_layout.l1 k2 (wrap64 (x6_2 - 1)) s0_0 t184 t185 (wrap64 (1+t160)) x164001_2) else (if x164001_2.length<8796093022208 then (spec_l5Cur_layout.l1 k2 (wrap64 (x6_2 - 1)) s0_0 t184 t185 (wrap64 (1+t160)) (x164001_2 ++ [(⟨wrap64 (t180 - 1),wrap64 (t183 - 1)⟩:S88)])) else (none)))=some (r1,r2,r3,r4):=H
      have A74:=Aside0.mk A740
      clear A740
      by_cases c75:(wrap64 (t180 - 1))=(wrap64 (t183 - 1))
      ·rw [if_pos c75] at H
       have c75b0:((wrap64 (t180 - 1))==(wrap64 (t183 - 1)))=true:=beq_iff_eq.mpr c75
       have c75b1:((wrap64 (t180 - 1)) != (wrap64 (t183 - 1)))=false:=bne_eq_false_iff_eq.mpr c75
       clear c75
       have H':=Aside0.mk H
       clear H
       have hnb76:=NB163_159.out
       have hnc76:=NB159_163.out
       have hnb77:=NB163_0.out
       have hnc77:=NB0_163.out
       have hcz78_0:wr.cell? ⟨gb163,0,none⟩=some (.int .i64 (wrap64 (1+t160))):=(blk_cell BK163.out 0).trans rfl
       have hcz78_1:wr.cell? ⟨gb163,1,none⟩=some (u164001):=(blk_cell BK163.out 1).trans rfl
       have hfz78_0:=blk_frozen BK163.out 0
       have hfz78_1:=blk_frozen BK163.out 1
       go_wp2_with (first|((with_reducible refine gate_callee (f:=108) rfl ?_);refine goesL_ (some 47) rfl rfl Try.func108 (by kernel_rfl) rfl #[.pointer (some ⟨g,0,none⟩),.int .i64 (wrap64 ((wrap64 (1+t160))+1))] rfl (by (try simp only [List.map_toArray,List.map_cons,List.map_nil]);first|done|rfl|(simp only [List.length_drop,List.length_take];rfl)) ?_;(with_reducible refine (spec_l5Cur_pick.calls g s0_0 x1001_2 x1002_2 (wrap64 ((wrap64 (1+t160))+1)) t180 t181 t182 w0 _ ?side1 ?side2 A73.out).mono ?_);(case side1=>repeat (first|(with_reducible first|exact HI0.out|apply IsS116.alloc|apply IsS116.drewN|apply IsS116.drew|apply IsS116.set_1|apply IsS116.set_2|refine IsS116.far ?_ NB0_159.out _|refine IsS116.far ?_ NB0_163.out _)|exact HI0.out));(case side2=>repeat (first|(with_reducible first|exact HB.out|apply below_alloc|apply pw_below_drewN|apply below_drew1|refine below_set ?_ (IsS116.ge HI0.out)|refine below_set ?_ GE159.out|refine below_set ?_ GE163.out)|exact HB.out));rintro e w79 ⟨rfl,hi,hb,hk⟩;refine ⟨_,rfl,?_⟩;have n0_:=Aside0.mk (Kd.R_mono (Kd.R_keep (IsS116.apart (show IsS116 w0 _ g s0_0 x1001_2 x1002_2 from by repeat (first|(with_reducible first|exact HI0.out|apply IsS116.alloc|apply IsS116.drewN|apply IsS116.drew|apply IsS116.set_1|apply IsS116.set_2|refine IsS116.far ?_ NB0_159.out _|refine IsS116.far ?_ NB0_163.out _)|exact HI0.out)) (by (with_reducible repeat (first|apply Kd.R_alloc|apply Kd.R_drewN|apply Kd.R_drew));exact HO_164001.out) (by decide)) hk (fun _ h=>h.2)) (fun _ h=>h.1));have n1_:=Aside0.mk (KeepBut.blk hk (g':=gb159) (o:=.cells #[.int .i64 0,.slice none 0 0] 30 (0,0)) (by (with_reducible repeat (first|refine blk_drewN ?_ _|refine blk_drew ?_|refine blk_alloc ?_ _));exact BK159.out) NB159_0.out (by simp));have n2_:=Aside0.mk (KeepBut.blk hk (g':=gb163) (o:=.cells #[.int .i64 (wrap64 (1+t160)),u164001] 30 (0,0)) (by (with_reducible repeat (first|refine blk_drewN ?_ _|refine blk_drew ?_|refine blk_alloc ?_ _));exact BK163.out) NB163_0.out (by simp));have n3_:=Aside0.mk (KeepBut.trans (by repeat (first|(with_reducible first|exact HK.out|apply KeepBut.set_|apply keep_drewN|apply keep_drew|apply keep_alloc|refine keep_far ?_ GW159.out _|refine keep_far ?_ GW163.out _)|exact HK.out)) hk (.inl rfl));have n4_:=Aside0.mk (hb);have n5_:=Aside0.mk (hi);clear HO_164001;clear BK159;clear BK163;clear HK;clear HB;clear HI0;have HO_164001:=n0_;have BK159:=n1_;have BK163:=n2_;have HK:=n3_;have HB:=n4_;have HI0:=n5_;clear n0_ n1_ n2_ n3_ n4_ n5_;(try clear hb);(try clear hb2);(try clear hk);(try clear hi);have hcz80_0:w79.cell? ⟨gb163,0,none⟩=some (.int .i64 (wrap64 (1+t160))):=(blk_cell BK163.out 0).trans rfl;have hcz80_1:w79.cell? ⟨gb163,1,none⟩=some (u164001):=(blk_cell BK163.out 1).trans rfl;have hfz80_0:=blk_frozen BK163.out 0;have hfz80_1:=blk_frozen BK163.out 1)|((with_reducible refine gate_callee (f:=108) rfl ?_);refine goesL_ (some 53) rfl rfl Try.func108 (by kernel_rfl) rfl #[.pointer (some ⟨g,0,none⟩),.int .i64 (wrap64 ((wrap64 (1+t160))+1))] rfl (by (try simp only [List.map_toArray,List.map_cons,List.map_nil]);first|done|rfl|(simp only [List.length_drop,List.length_take];rfl)) ?_;(with_reducible refine (spec_l5Cur_pick.calls g s0_0 t181 t182 (wrap64 ((wrap64 (1+t160))+1)) t183 t184 t185 w0 _ ?side1 ?side2 A74.out).mono ?_);(case side1=>repeat (first|(with_reducible first|exact HI0.out|apply IsS116.alloc|apply IsS116.drewN|apply IsS116.drew|apply IsS116.set_1|apply IsS116.set_2|refine IsS116.far ?_ NB0_159.out _|refine IsS116.far ?_ NB0_163.out _)|exact HI0.out));(case side2=>repeat (first|(with_reducible first|exact HB.out|apply below_alloc|apply pw_below_drewN|apply below_drew1|refine below_set ?_ (IsS116.ge HI0.out)|refine below_set ?_ GE159.out|refine below_set ?_ GE163.out)|exact HB.out));rintro e w81 ⟨rfl,hi,hb,hk⟩;refine ⟨_,rfl,?_⟩;have n0_:=Aside0.mk (Kd.R_mono (Kd.R_keep (IsS116.apart (show IsS116 w0 _ g s0_0 t181 t182 from by repeat (first|(with_reducible first|exact HI0.out|apply IsS116.alloc|apply IsS116.drewN|apply IsS116.drew|apply IsS116.set_1|apply IsS116.set_2|refine IsS116.far ?_ NB0_159.out _|refine IsS116.far ?_ NB0_163.out _)|exact HI0.out)) (by (with_reducible repeat (first|apply Kd.R_alloc|apply Kd.R_drewN|apply Kd.R_drew));exact HO_164001.out) (by decide)) hk (fun _ h=>h.2)) (fun _ h=>h.1));have n1_:=Aside0.mk (KeepBut.blk hk (g':=gb159) (o:=.cells #[.int .i64 0,.slice none 0 0] 30 (0,0)) (by (with_reducible repeat (first|refine blk_drewN ?_ _|refine blk_drew ?_|refine blk_alloc ?_ _));exact BK159.out) NB159_0.out (by simp));have n2_:=Aside0.mk (KeepBut.blk hk (g':=gb163) (o:=.cells #[.int .i64 (wrap64 (1+t160)),u164001] 30 (0,0)) (by (with_reducible repeat (first|refine blk_drewN ?_ _|refine blk_drew ?_|refine blk_alloc ?_ _));exact BK163.out) NB163_0.out (by simp));have n3_:=Aside0.mk (KeepBut.trans (by repeat (first|(with_reducible first|exact HK.out|apply KeepBut.set_|apply keep_drewN|apply keep_drew|apply keep_alloc|refine keep_far ?_ GW159.out _|refine keep_far ?_ GW163.out _)|exact HK.out)) hk (.inl rfl));have n4_:=Aside0.mk (hb);have n5_:=Aside0.mk (hi);clear HO_164001;clear BK159;clear BK163;clear HK;clear HB;clear HI0;have HO_164001:=n0_;have BK159:=n1_;have BK163:=n2_;have HK:=n3_;have HB:=n4_;have HI0:=n5_;clear n0_ n1_ n2_ n3_ n4_ n5_;(try clear hb);(try clear hb2);(try clear hk);(try clear hi)))
       go_roundg k2
       case measure=>have:=HK1.out;have:=HK2.out;omega
       case rel=>exact ⟨(wrap64 (x6_2 - 1)),(t184),(t185),(x164001_2),(u164001),(by first|rfl|(simp;done)|(simp [*];done)),H',⟨by have:=HK1.out;have:=HK2.out;omega⟩,⟨by (with_reducible repeat (first|apply Kd.R_alloc|apply Kd.R_drewN|apply Kd.R_drew));exact HO_164001.out⟩,⟨by (with_reducible repeat (first|refine blk_drewN ?_ _|refine blk_drew ?_|refine blk_alloc ?_ _));exact BK159.out⟩,⟨by (with_reducible repeat (first|refine blk_drewN ?_ _|refine blk_drew ?_|refine blk_alloc ?_ _));exact BK163.out⟩,⟨by repeat (first|(with_reducible first|exact HI0.out|apply IsS116.alloc|apply IsS116.drewN|apply IsS116.drew|apply IsS116.set_1|apply IsS116.set_2|refine IsS116.far ?_ NB0_159.out _|refine IsS116.far ?_ NB0_163.out _)|exact HI0.out)⟩,⟨by repeat (first|(with_reducible first|exact HK.out|apply KeepBut.set_|apply keep_drewN|apply keep_drew|apply keep_alloc|refine keep_far ?_ GW159.out _|refine keep_far ?_ GW163.out _)|exact HK.out)⟩,⟨by repeat (first|(with_reducible first|exact HB.out|apply below_alloc|apply pw_below_drewN|apply below_drew1|refine below_set ?_ (IsS116.ge HI0.out)|refine below_set ?_ GE159.out|refine below_set ?_ GE163.out)|exact HB.out)⟩⟩
      rw [if_neg c75] at H
      have c75b0:((wrap64 (t180 - 1))==(wrap64 (t183 - 1)))=false:=beq_eq_false_iff_ne.mpr c75
      have c75b1:((wrap64 (t180 - 1)) != (wrap64 (t183 - 1)))=true:=bne_iff_ne.mpr c75
      by_cases c82:x164001_2.length<8796093022208
      ·rw [if_pos c82] at H
       have LMc82:=Aside0.mk c82
       clear c82
       obtain ⟨y186,hy186⟩:∃ y_:List (S88),y_=(x164001_2 ++ [(⟨wrap64 (t180 - 1),wrap64 (t183 - 1)⟩:S88)]):=⟨_,rfl⟩
       replace H:(spec_l5Cur_layout.l1 k2 (wrap64 (x6_2 - 1)) s0_0 t184 t185 (wrap64 (1+t160)) y186)=some (r1,r2,r3,r4):=by first|(rw [hy186];with_reducible exact H)|(have H2_:=(Option.bind_some _ _).symm.trans H;rw [hy186];with_reducible exact H2_)|(have H2_:=(Option.bind_some _ _).symm.trans H;with_reducible exact H2_)|with_reducible exact H|(rw [hy186];exact H)|exact H
       have Ny186:=Aside0.mk hy186
       clear hy186
       have H':=Aside0.mk H
       clear H
       have hnb83:=NB163_159.out
       have hnc83:=NB159_163.out
       have hnb84:=NB163_0.out
       have hnc84:=NB0_163.out
       have hcz85_0:wr.cell? ⟨gb163,0,none⟩=some (.int .i64 (wrap64 (1+t160))):=(blk_cell BK163.out 0).trans rfl
       have hcz85_1:wr.cell? ⟨gb163,1,none⟩=some (u164001):=(blk_cell BK163.out 1).trans rfl
       have hfz85_0:=blk_frozen BK163.out 0
       have hfz85_1:=blk_frozen BK163.out 1
       go_wp2_with (first|((with_reducible refine gate_callee (f:=108) rfl ?_);refine goesL_ (some 47) rfl rfl Try.func108 (by kernel_rfl) rfl #[.pointer (some ⟨g,0,none⟩),.int .i64 (wrap64 ((wrap64 (1+t160))+1))] rfl (by (try simp only [List.map_toArray,List.map_cons,List.map_nil]);first|done|rfl|(simp only [List.length_drop,List.length_take];rfl)) ?_;(with_reducible refine (spec_l5Cur_pick.calls g s0_0 x1001_2 x1002_2 (wrap64 ((wrap64 (1+t160))+1)) t180 t181 t182 w0 _ ?side1 ?side2 A73.out).mono ?_);(case side1=>repeat (first|(with_reducible first|exact HI0.out|apply IsS116.alloc|apply IsS116.drewN|apply IsS116.drew|apply IsS116.set_1|apply IsS116.set_2|refine IsS116.far ?_ NB0_159.out _|refine IsS116.far ?_ NB0_163.out _)|exact HI0.out));(case side2=>repeat (first|(with_reducible first|exact HB.out|apply below_alloc|apply pw_below_drewN|apply below_drew1|refine below_set ?_ (IsS116.ge HI0.out)|refine below_set ?_ GE159.out|refine below_set ?_ GE163.out)|exact HB.out));rintro e w86 ⟨rfl,hi,hb,hk⟩;refine ⟨_,rfl,?_⟩;have n0_:=Aside0.mk (Kd.R_mono (Kd.R_keep (IsS116.apart (show IsS116 w0 _ g s0_0 x1001_2 x1002_2 from by repeat (first|(with_reducible first|exact HI0.out|apply IsS116.alloc|apply IsS116.drewN|apply IsS116.drew|apply IsS116.set_1|apply IsS116.set_2|refine IsS116.far ?_ NB0_159.out _|refine IsS116.far ?_ NB0_163.out _)|exact HI0.out)) (by (with_reducible repeat (first|apply Kd.R_alloc|apply Kd.R_drewN|apply Kd.R_drew));exact HO_164001.out) (by decide)) hk (fun _ h=>h.2)) (fun _ h=>h.1));have n1_:=Aside0.mk (KeepBut.blk hk (g':=gb159) (o:=.cells #[.int .i64 0,.slice none 0 0] 30 (0,0)) (by (with_reducible repeat (first|refine blk_drewN ?_ _|refine blk_drew ?_|refine blk_alloc ?_ _));exact BK159.out) NB159_0.out (by simp));have n2_:=Aside0.mk (KeepBut.blk hk (g':=gb163) (o:=.cells #[.int .i64 (wrap64 (1+t160)),u164001] 30 (0,0)) (by (with_reducible repeat (first|refine blk_drewN ?_ _|refine blk_drew ?_|refine blk_alloc ?_ _));exact BK163.out) NB163_0.out (by simp));have n3_:=Aside0.mk (KeepBut.trans (by repeat (first|(with_reducible first|exact HK.out|apply KeepBut.set_|apply keep_drewN|apply keep_drew|apply keep_alloc|refine keep_far ?_ GW159.out _|refine keep_far ?_ GW163.out _)|exact HK.out)) hk (.inl rfl));have n4_:=Aside0.mk (hb);have n5_:=Aside0.mk (hi);clear HO_164001;clear BK159;clear BK163;clear HK;clear HB;clear HI0;have HO_164001:=n0_;have BK159:=n1_;have BK163:=n2_;have HK:=n3_;have HB:=n4_;have HI0:=n5_;clear n0_ n1_ n2_ n3_ n4_ n5_;(try clear hb);(try clear hb2);(try clear hk);(try clear hi);have hcz87_0:w86.cell? ⟨gb163,0,none⟩=some (.int .i64 (wrap64 (1+t160))):=(blk_cell BK163.out 0).trans rfl;have hcz87_1:w86.cell? ⟨gb163,1,none⟩=some (u164001):=(blk_cell BK163.out 1).trans rfl;have hfz87_0:=blk_frozen BK163.out 0;have hfz87_1:=blk_frozen BK163.out 1)|((with_reducible refine gate_callee (f:=108) rfl ?_);refine goesL_ (some 53) rfl rfl Try.func108 (by kernel_rfl) rfl #[.pointer (some ⟨g,0,none⟩),.int .i64 (wrap64 ((wrap64 (1+t160))+1))] rfl (by (try simp only [List.map_toArray,List.map_cons,List.map_nil]);first|done|rfl|(simp only [List.length_drop,List.length_take];rfl)) ?_;(with_reducible refine (spec_l5Cur_pick.calls g s0_0 t181 t182 (wrap64 ((wrap64 (1+t160))+1)) t183 t184 t185 w0 _ ?side1 ?side2 A74.out).mono ?_);(case side1=>repeat (first|(with_reducible first|exact HI0.out|apply IsS116.alloc|apply IsS116.drewN|apply IsS116.drew|apply IsS116.set_1|apply IsS116.set_2|refine IsS116.far ?_ NB0_159.out _|refine IsS116.far ?_ NB0_163.out _)|exact HI0.out));(case side2=>repeat (first|(with_reducible first|exact HB.out|apply below_alloc|apply pw_below_drewN|apply below_drew1|refine below_set ?_ (IsS116.ge HI0.out)|refine below_set ?_ GE159.out|refine below_set ?_ GE163.out)|exact HB.out));rintro e w88 ⟨rfl,hi,hb,hk⟩;refine ⟨_,rfl,?_⟩;have n0_:=Aside0.mk (Kd.R_mono (Kd.R_keep (IsS116.apart (show IsS116 w0 _ g s0_0 t181 t182 from by repeat (first|(with_reducible first|exact HI0.out|apply IsS116.alloc|apply IsS116.drewN|apply IsS116.drew|apply IsS116.set_1|apply IsS116.set_2|refine IsS116.far ?_ NB0_159.out _|refine IsS116.far ?_ NB0_163.out _)|exact HI0.out)) (by (with_reducible repeat (first|apply Kd.R_alloc|apply Kd.R_drewN|apply Kd.R_drew));exact HO_164001.out) (by decide)) hk (fun _ h=>h.2)) (fun _ h=>h.1));have n1_:=Aside0.mk (KeepBut.blk hk (g':=gb159) (o:=.cells #[.int .i64 0,.slice none 0 0] 30 (0,0)) (by (with_reducible repeat (first|refine blk_drewN ?_ _|refine blk_drew ?_|refine blk_alloc ?_ _));exact BK159.out) NB159_0.out (by simp));have n2_:=Aside0.mk (KeepBut.blk hk (g':=gb163) (o:=.cells #[.int .i64 (wrap64 (1+t160)),u164001] 30 (0,0)) (by (with_reducible repeat (first|refine blk_drewN ?_ _|refine blk_drew ?_|refine blk_alloc ?_ _));exact BK163.out) NB163_0.out (by simp));have n3_:=Aside0.mk (KeepBut.trans (by repeat (first|(with_reducible first|exact HK.out|apply KeepBut.set_|apply keep_drewN|apply keep_drew|apply keep_alloc|refine keep_far ?_ GW159.out _|refine keep_far ?_ GW163.out _)|exact HK.out)) hk (.inl rfl));have n4_:=Aside0.mk (hb);have n5_:=Aside0.mk (hi);clear HO_164001;clear BK159;clear BK163;clear HK;clear HB;clear HI0;have HO_164001:=n0_;have BK159:=n1_;have BK163:=n2_;have HK:=n3_;have HB:=n4_;have HI0:=n5_;clear n0_ n1_ n2_ n3_ n4_ n5_;(try clear hb);(try clear hb2);(try clear hk);(try clear hi);have hcz89_0:w88.cell? ⟨gb163,0,none⟩=some (.int .i64 (wrap64 (1+t160))):=(blk_cell BK163.out 0).trans rfl;have hcz89_1:w88.cell? ⟨gb163,1,none⟩=some (u164001):=(blk_cell BK163.out 1).trans rfl;have hfz89_0:=blk_frozen BK163.out 0;have hfz89_1:=blk_frozen BK163.out 1)|((with_reducible refine gate_builtin (b:=.append) (xs:=#[.tmp 59,.tmp 63]) rfl ?_);at_builtin;refine Kd.R_append k88 w.heap.size rfl (.tmp 59) (.tmp 63) 28 88 (.agg #[(.int .i64 0),(.int .i64 0)]) 16 rfl Try.underlying28 info88 rfl (by decide) (by omega) u164001 x164001_2 (⟨wrap64 (t180 - 1),wrap64 (t183 - 1)⟩:S88) [.int .i64 (wrap64 (t180 - 1)),.int .i64 (wrap64 (t183 - 1))] (fun _=>True) (fun _=>False) rfl rfl ?aP (fun _ hk=>hk.elim) ?aF ?aO (Below.refl _ _) ?aS ?aL ?_;(case aP=>exact k88_mkM _ _ _ (⟨wrap64 (t180 - 1),wrap64 (t183 - 1)⟩:S88));(case aF=>exact (fun _ _=>trivial));(case aO=>exact (by (with_reducible repeat (first|apply Kd.R_alloc|apply Kd.R_drewN|apply Kd.R_drew));exact HO_164001.out));(case aS=>exact (keep_size (w:=w) (g:=g) (row:=none) (by repeat (first|(with_reducible first|exact HK.out|apply KeepBut.set_|apply keep_drewN|apply keep_drew|apply keep_alloc|refine keep_far ?_ GW159.out _|refine keep_far ?_ GW163.out _)|exact HK.out))));(case aL=>have:=LMc82.out;omega);intro v187 w90 ho hb hg hat;rw [← Ny186.out] at ho;have n0_:=Aside0.mk (blk_grown (g:=gb159) (o:=.cells #[.int .i64 0,.slice none 0 0] 30 (0,0)) (by (with_reducible repeat (first|refine blk_drewN ?_ _|refine blk_drew ?_|refine blk_alloc ?_ _));exact BK159.out) hg (Kd.R_ne HO_164001.out BK159.out (by decide)));have n1_:=Aside0.mk (blk_grown (g:=gb163) (o:=.cells #[.int .i64 (wrap64 (1+t160)),u164001] 30 (0,0)) (by (with_reducible repeat (first|refine blk_drewN ?_ _|refine blk_drew ?_|refine blk_alloc ?_ _));exact BK163.out) hg (Kd.R_ne HO_164001.out BK163.out (by decide)));have n2_:=Aside0.mk (IsS116.grown (by repeat (first|(with_reducible first|exact HI0.out|apply IsS116.alloc|apply IsS116.drewN|apply IsS116.drew|apply IsS116.set_1|apply IsS116.set_2|refine IsS116.far ?_ NB0_159.out _|refine IsS116.far ?_ NB0_163.out _)|exact HI0.out)) hg (IsS116.own_ne HI0.out HO_164001.out (by decide)));have n3_:=Aside0.mk (below_weaken (by repeat (first|(with_reducible first|exact HB.out|apply below_alloc|apply pw_below_drewN|apply below_drew1|refine below_set ?_ (IsS116.ge HI0.out)|refine below_set ?_ GE159.out|refine below_set ?_ GE163.out)|exact HB.out)) HL.out hb);have n4_:=Aside0.mk (KeepBut.trans (by repeat (first|(with_reducible first|exact HK.out|apply KeepBut.set_|apply keep_drewN|apply keep_drew|apply keep_alloc|refine keep_far ?_ GW159.out _|refine keep_far ?_ GW163.out _)|exact HK.out)) (KeepBut.of_grown hg g) (Kd.R_base2 HO_164001.out));have n5_:=Aside0.mk (ho);clear BK159;clear BK163;clear HI0;clear HB;clear HK;clear HO_164001;have BK159:=n0_;have BK163:=n1_;have HI0:=n2_;have HB:=n3_;have HK:=n4_;have HO188:=n5_;clear n0_ n1_ n2_ n3_ n4_ n5_;clear ho hb hg hat;obtain ⟨Ao91,co91,eo91⟩:=Kd.R_slice HO188.out;subst eo91;have hcz92_0:w90.cell? ⟨gb163,0,none⟩=some (.int .i64 (wrap64 (1+t160))):=(blk_cell BK163.out 0).trans rfl;have hcz92_1:w90.cell? ⟨gb163,1,none⟩=some (u164001):=(blk_cell BK163.out 1).trans rfl;have hfz92_0:=blk_frozen BK163.out 0;have hfz92_1:=blk_frozen BK163.out 1))
       go_roundg k2
       case measure=>have:=HK1.out;have:=HK2.out;omega
       case rel=>exact ⟨(wrap64 (x6_2 - 1)),(t184),(t185),(y186),(.slice Ao91 y186.length co91),(by first|rfl|(simp;done)|(simp [*];done)),H',⟨by have:=HK1.out;have:=HK2.out;omega⟩,⟨by (with_reducible repeat (first|apply Kd.R_alloc|apply Kd.R_drewN|apply Kd.R_drew));exact Kd.R_mono (Kd.R_far (p:=⟨gb163,1,none⟩) (Kd.R_types HO188.out BK163.out (by decide)) (fun _ hk=>hk.2) (.slice Ao91 y186.length co91)) (fun _ hk=>trivial)⟩,⟨by (with_reducible repeat (first|refine blk_drewN ?_ _|refine blk_drew ?_|refine blk_alloc ?_ _));refine blk_far ?_ NB159_163.out _;(with_reducible repeat (first|refine blk_drewN ?_ _|refine blk_drew ?_|refine blk_alloc ?_ _));exact BK159.out⟩,⟨by (with_reducible repeat (first|refine blk_drewN ?_ _|refine blk_drew ?_|refine blk_alloc ?_ _));refine blk_put (cs:=#[.int .i64 (wrap64 (1+t160)),u164001]) ?_ 1 _ rfl;(with_reducible repeat (first|refine blk_drewN ?_ _|refine blk_drew ?_|refine blk_alloc ?_ _));exact BK163.out⟩,⟨by repeat (first|(with_reducible first|exact HI0.out|apply IsS116.alloc|apply IsS116.drewN|apply IsS116.drew|apply IsS116.set_1|apply IsS116.set_2|refine IsS116.far ?_ NB0_159.out _|refine IsS116.far ?_ NB0_163.out _)|exact HI0.out)⟩,⟨by repeat (first|(with_reducible first|exact HK.out|apply KeepBut.set_|apply keep_drewN|apply keep_drew|apply keep_alloc|refine keep_far ?_ GW159.out _|refine keep_far ?_ GW163.out _)|exact HK.out)⟩,⟨by repeat (first|(with_reducible first|exact HB.out|apply below_alloc|apply pw_below_drewN|apply below_drew1|refine below_set ?_ (IsS116.ge HI0.out)|refine below_set ?_ GE159.out|refine below_set ?_ GE163.out)|exact HB.out)⟩⟩
      rw [if_neg c82] at H
      exact absurd H (by simp)
     rw [if_neg c72] at H
     have c72b0:decide (0<x6_2)=false:=decide_eq_false c72
     clear c72
     simp only [Option.some.injEq,Prod.mk.injEq] at H
     obtain ⟨rfl,rfl,rfl,rfl⟩:=H
     have hnb93:=NB163_159.out
     have hnc93:=NB159_163.out
     have hnb94:=NB163_0.out
     have hnc94:=NB0_163.out
     have hcz95_0:wr.cell? ⟨gb163,0,none⟩=some (.int .i64 (wrap64 (1+t160))):=(blk_cell BK163.out 0).trans rfl
     have hcz95_1:wr.cell? ⟨gb163,1,none⟩=some (u164001):=(blk_cell BK163.out 1).trans rfl
     have hfz95_0:=blk_frozen BK163.out 0
     have hfz95_1:=blk_frozen BK163.out 1
     have hnb96:=NB159_0.out
     have hnc96:=NB0_159.out
     have hcz97_0:wr.cell? ⟨gb159,0,none⟩=some (.int .i64 0):=(blk_cell BK159.out 0).trans rfl
     have hcz97_1:wr.cell? ⟨gb159,1,none⟩=some (.slice none 0 0):=(blk_cell BK159.out 1).trans rfl
     have hfz97_0:=blk_frozen BK159.out 0
     have hfz97_1:=blk_frozen BK159.out 1
     obtain ⟨Ao98,co98,eo98⟩:=Kd.R_slice HO_164001.out
     subst eo98
     go_wp2
     refine bodyPost_ret (results_cell_row rfl _ _ gb159 30 #[.int .i64 (wrap64 (1+t160)),.slice Ao98 x164001_2.length co98] (0,0) _ rfl (by (with_reducible repeat (first|refine blk_drewN ?_ _|refine blk_drew ?_|refine blk_alloc ?_ _));refine blk_put (cs:=#[.int .i64 (wrap64 (1+t160)),.slice none 0 0]) ?_ 1 _ rfl;(with_reducible repeat (first|refine blk_drewN ?_ _|refine blk_drew ?_|refine blk_alloc ?_ _));refine blk_put (cs:=#[.int .i64 0,.slice none 0 0]) ?_ 0 _ rfl;(with_reducible repeat (first|refine blk_drewN ?_ _|refine blk_drew ?_|refine blk_alloc ?_ _));exact BK159.out) Try.underlying30 rfl (by kernel_rfl)) rfl ?_
     exact ⟨_,by first|rfl|(simp [errW_none,errW_some] <;> rfl)|(simp [*,errW_none,errW_some] <;> rfl),by (with_reducible repeat (first|apply Kd.R_alloc|apply Kd.R_drewN|apply Kd.R_drew));exact Kd.R_mono (Kd.R_far (p:=⟨gb159,1,none⟩) (Kd.R_far (p:=⟨gb159,0,none⟩) (Kd.R_types HO_164001.out BK159.out (by decide)) (fun _ hk=>hk.2) (.int .i64 (wrap64 (1+t160)))) (fun _ hk=>hk.2) (.slice Ao98 x164001_2.length co98)) (fun _ hk=>trivial),by repeat (first|(with_reducible first|exact HI0.out|apply IsS116.alloc|apply IsS116.drewN|apply IsS116.drew|apply IsS116.set_1|apply IsS116.set_2|refine IsS116.far ?_ NB0_159.out _|refine IsS116.far ?_ NB0_163.out _)|exact HI0.out),by repeat (first|(with_reducible first|exact HB.out|apply below_alloc|apply pw_below_drewN|apply below_drew1|refine below_set ?_ (IsS116.ge HI0.out)|refine below_set ?_ GE159.out|refine below_set ?_ GE163.out)|exact HB.out),by repeat (first|(with_reducible first|exact HK.out|apply KeepBut.set_|apply keep_drewN|apply keep_drew|apply keep_alloc|refine keep_far ?_ GW159.out _|refine keep_far ?_ GW163.out _)|exact HK.out)⟩
end Go.Proofs.Ytpdnabhpkdchjaa.P
namespace Go.Proofs.Ytpdnabhpkdchjaa.P
open Go.RowKit Go.Proofs.YtpdnabhpkdchjaaW.PrintWords Go.Proofs.YtpdnabhpkdchjaaW.PrintLast Go.Proofs.YtpdnabhpkdchjaaW.PrintMore
set_option linter.unusedVariables false
set_option linter.unusedSimpArgs false
def CtrsOk (n : Int) (l : List S88) : Prop := ∀ x ∈ l, -1 ≤ x.f0 ∧ x.f0 < n ∧ -1 ≤ x.f1 ∧ x.f1 < n ∧ x.f0 ≠ x.f1
theorem layOk_mk {n : Int} {l : List S88} (h0 : 1 ≤ n) (h1 : n ≤ 60) (h2 : l.length ≤ 120) (h : CtrsOk n l) : layoutOk n l = 0 := by
  unfold layoutOk
  rw [if_neg (by omega), if_neg (by omega), if_neg (by omega), if_pos]
  refine List.all_eq_true.2 fun x hx => ?_
  have := h x hx
  simp only [ctrOk, inB, Bool.and_eq_true, decide_eq_true_eq, Bool.not_eq_true', beq_eq_false_iff_ne]
  exact ⟨⟨⟨this.1, this.2.1⟩, this.2.2.1, this.2.2.2.1⟩, this.2.2.2.2⟩
theorem CtrsOk.app {n : Int} {l : List S88} {x : S88} (h : CtrsOk n l) (hx : -1 ≤ x.f0 ∧ x.f0 < n ∧ -1 ≤ x.f1 ∧ x.f1 < n ∧ x.f0 ≠ x.f1) : CtrsOk n (l ++ [x]) := by
  intro y hy
  rcases List.mem_append.1 hy with hy | hy
  · exact h y hy
  · rw [List.mem_singleton.1 hy]; exact hx
theorem layD1 {code : List Int} {n : Int} (hn0 : 1 ≤ n) (hn1 : n ≤ 5) (m : Nat) : ∀ (q : Nat) (b : Int) (c : Int × Int) (l : List S88), q ≤ 3 → CtrsOk n l → l.length + q ≤ 9 → CurOk code b c → b + 4 * q ≤ 2000000000 →
    ∃ l' c', spec_l5Cur_layout.l1 (q + 1 + m) (q : Int) code c.1 c.2 n l = some (n, l', c'.1, c'.2) ∧ CtrsOk n l' ∧ l'.length ≤ l.length + q ∧ CurOk code (b + 4 * q) c' := by
  intro q
  induction q with
  | zero =>
    intro b c l _ hl _ hc _
    refine ⟨l, c, ?_, hl, by omega, hc.mono (by omega)⟩
    rw [show 0 + 1 + m = m + 1 by omega]
    simp only [spec_l5Cur_layout.l1]
    rw [if_neg (by omega)]
  | succ q ih =>
    intro b c l hq hl hll hc hb
    have hw : wrap64 (n + 1) = n + 1 := wrap_id (by omega) (by omega)
    obtain ⟨v, c1, e1, _, v0, v1, hc1⟩ := pick_ok (m := n + 1) hc (by omega) (by omega)
    obtain ⟨u, c2, e2, _, u0, u1, hc2⟩ := pick_ok (m := n + 1) hc1 (by omega) (by omega)
    have w1 : wrap64 (v - 1) = v - 1 := wrap_id (by omega) (by omega)
    have w2 : wrap64 (u - 1) = u - 1 := wrap_id (by omega) (by omega)
    have w3 : wrap64 (((q + 1 : Nat) : Int) - 1) = (q : Int) := (wrap_id (by omega) (by omega)).trans (by omega)
    rw [show q + 1 + 1 + m = (q + 1 + m) + 1 by omega]
    simp only [spec_l5Cur_layout.l1, hw, e1, e2, Option.bind_some, w1, w2, w3]
    rw [if_pos (show ((q + 1 : Nat) : Int) > 0 by omega)]
    by_cases h : v - 1 = u - 1
    · rw [if_pos h]
      obtain ⟨l', c', e, k1, k2, k3⟩ := ih (b + 4) c2 l (by omega) hl (by omega) (hc2.mono (by omega)) (by omega)
      exact ⟨l', c', e, k1, by omega, k3.mono (by omega)⟩
    · rw [if_neg h, if_pos (by omega)]
      obtain ⟨l', c', e, k1, k2, k3⟩ := ih (b + 4) c2 (l ++ [⟨v - 1, u - 1⟩]) (by omega) (hl.app ⟨by show -1 ≤ v - 1; omega, by show v - 1 < n; omega, by show -1 ≤ u - 1; omega, by show u - 1 < n; omega, h⟩) (by simp; omega) (hc2.mono (by omega)) (by omega)
      exact ⟨l', c', e, k1, by simp at k2; omega, k3.mono (by omega)⟩
theorem layD0 {code : List Int} {n : Int} (hn0 : 1 ≤ n) (hn1 : n ≤ 5) : ∀ (d i : Nat) (b : Int) (c : Int × Int) (l : List S88), (i : Int) + d = n + 1 → CtrsOk n l → l.length ≤ i → CurOk code b c → b + 2 * d ≤ 1999999000 →
    ∃ l' c', spec_l5Cur_layout.l0 (d + 4) (i : Int) code c.1 c.2 n l = some (n, l', c'.1, c'.2) ∧ CtrsOk n l' ∧ l'.length ≤ 9 ∧ CurOk code (b + 2 * d + 20) c' := by
  intro d
  induction d with
  | zero =>
    intro i b c l hi hl hll hc hb
    obtain ⟨v, c1, e1, _, v0, v1, hc1⟩ := pick_ok (m := 3) hc (by omega) (by omega)
    obtain ⟨v, rfl⟩ := Int.eq_ofNat_of_zero_le v0
    obtain ⟨l', c', e, k1, k2, k3⟩ := layD1 hn0 hn1 (2 - v) v (b + 2) c1 l (by omega) hl (by omega) hc1 (by omega)
    refine ⟨l', c', ?_, k1, by omega, k3.mono (by omega)⟩
    rw [show v + 1 + (2 - v) = 3 by omega] at e
    simp only [spec_l5Cur_layout.l0, e1, Option.bind_some]
    rw [if_neg (by omega)]
    exact e
  | succ d ih =>
    intro i b c l hi hl hll hc hb
    obtain ⟨v, c1, e1, _, v0, v1, hc1⟩ := pick_ok (m := 12) hc (by omega) (by omega)
    have w1 : wrap64 ((i : Int) - 1) = (i : Int) - 1 := wrap_id (by omega) (by omega)
    have w2 : wrap64 ((i : Int) + 1) = ((i + 1 : Nat) : Int) := wrap_succ (by omega)
    have hh : ∀ l1 : List S88, CtrsOk n l1 → l1.length ≤ i + 1 → ∃ l' c', spec_l5Cur_layout.l0 (d + 4) ((i + 1 : Nat) : Int) code c1.1 c1.2 n l1 = some (n, l', c'.1, c'.2) ∧ CtrsOk n l' ∧ l'.length ≤ 9 ∧ CurOk code (b + 2 * ((d + 1 : Nat) : Int) + 20) c' := by
      intro l1 k1 k2
      obtain ⟨l', c', e, k3, k4, k5⟩ := ih (i + 1) (b + 2) c1 l1 (by omega) k1 k2 hc1 (by omega)
      exact ⟨l', c', e, k3, k4, k5.mono (by omega)⟩
    rw [show d + 1 + 4 = (d + 4) + 1 by omega]
    simp only [spec_l5Cur_layout.l0, e1, Option.bind_some, w1, w2]
    rw [if_pos (by omega)]
    by_cases h : (i : Int) = n
    · rw [if_pos h]
      by_cases hv : v > 0
      · rw [if_pos hv, if_pos (by omega)]
        exact hh _ (hl.app ⟨by show -1 ≤ (i : Int) - 1; omega, by show (i : Int) - 1 < n; omega, by show (-1 : Int) ≤ -1; omega, by show (-1 : Int) < n; omega, by show (i : Int) - 1 ≠ -1; omega⟩) (by simp; omega)
      · rw [if_neg hv]
        exact hh _ hl (by omega)
    · rw [if_neg h]
      by_cases hv : v > 0
      · rw [if_pos hv, if_pos (by omega)]
        exact hh _ (hl.app ⟨by show -1 ≤ (i : Int) - 1; omega, by show (i : Int) - 1 < n; omega, by show -1 ≤ (i : Int); omega, by show (i : Int) < n; omega, by show (i : Int) - 1 ≠ i; omega⟩) (by simp; omega)
      · rw [if_neg hv]
        exact hh _ hl (by omega)
theorem layD {code : List Int} {b : Int} {c : Int × Int} (hc : CurOk code b c) (hb : b ≤ 1000000000) :
    ∃ k n l c', spec_l5Cur_layout.f k code c.1 c.2 = some (n, l, c'.1, c'.2) ∧ 1 ≤ n ∧ n ≤ 5 ∧ l.length ≤ 9 ∧ layoutOk n l = 0 ∧ CurOk code (b + 50) c' := by
  obtain ⟨v, c1, e1, _, v0, v1, hc1⟩ := pick_ok (m := 5) hc (by omega) (by omega)
  have w1 : wrap64 (1 + v) = 1 + v := wrap_id (by omega) (by omega)
  obtain ⟨l, c', e, k1, k2, k3⟩ := layD0 (n := 1 + v) (by omega) (by omega) (2 + v).toNat 0 (b + 2) c1 [] (by omega) (fun x hx => by simp at hx) (by simp) hc1 (by omega)
  refine ⟨(2 + v).toNat + 4, 1 + v, l, c', ?_, by omega, by omega, k2, layOk_mk (by omega) (by omega) (by omega) k1, k3.mono (by omega)⟩
  unfold spec_l5Cur_layout.f
  rw [e1, Option.bind_some, w1]
  exact e
end Go.Proofs.Ytpdnabhpkdchjaa.P
namespace Go.Proofs.Ytpdnabhpkdchjaa.P
open Go.RowKit Go.Proofs.YtpdnabhpkdchjaaW.PrintWords Go.Proofs.YtpdnabhpkdchjaaW.PrintLast Go.Proofs.YtpdnabhpkdchjaaW.PrintMore
set_option linter.unusedVariables false
structure EvP where
  c : Int × Int
  th : List Int
  dead : Int
  out : List S56
def evAsk (code : List Int) (yes honest : Bool) (c : Int × Int) (m : Int) : Bool × (Int × Int) := if yes = true then (true, c) else if honest = true then (false, c) else ((pk code c m).1 == 0, (pk code c m).2)
def mv (row : List Int) (f t : Int) : List Int :=
  let r1 := if 0 ≤ f then row.set f.toNat (wrap64 (rd row f - 1)) else row
  if 0 ≤ t then r1.set t.toNat (wrap64 (rd r1 t + 1)) else r1
def evPass (code : List Int) (x : S88) (honest : Bool) (k : Int) (c : Int × Int) (s : EvP) : EvP :=
  let p := pk code c 2
  let d := wrap64 (1 - wrap64 (2 * p.1))
  let f := if d < 0 then x.f1 else x.f0
  let t := if d < 0 then x.f0 else x.f1
  let q := evAsk code (decide (f < 0) || decide (0 < rd s.th f)) honest p.2 8
  if q.1 = true then ⟨q.2, mv s.th f t, s.dead, s.out ++ [⟨1, k, d⟩]⟩ else ⟨q.2, s.th, s.dead, s.out⟩
def evReset (code : List Int) (n : Int) (honest : Bool) (c : Int × Int) (s : EvP) : EvP :=
  let p := pk code c n
  let q := evAsk code (rd s.th p.1 == 0) honest p.2 4
  ⟨q.2, s.th, s.dead, if q.1 = true then s.out ++ [⟨5, p.1, 0⟩] else s.out⟩
def evStep (code : List Int) (n : Int) (l : List S88) (honest : Bool) (s : EvP) : EvP :=
  let k := pk code s.c l.length
  let a := pk code k.2 16
  if a.1 = 0 then ⟨(pk code a.2 2).2, s.th, s.dead, s.out ++ [⟨2, k.1, wrap64 (1 - wrap64 (2 * (pk code a.2 2).1))⟩]⟩
  else if a.1 = 1 then ⟨a.2, s.th, k.1, s.out ++ [⟨3, k.1, 0⟩]⟩
  else if a.1 = 2 ∨ a.1 = 3 then ⟨a.2, s.th, -1, s.out ++ [⟨4, if 0 ≤ s.dead then s.dead else k.1, 0⟩]⟩
  else if a.1 = 4 ∨ a.1 = 5 ∨ a.1 = 6 then evReset code n honest a.2 s
  else evPass code (rd_T88 l k.1) honest k.1 a.2 s
def evLoop (code : List Int) (n : Int) (l : List S88) (honest : Bool) : Nat → EvP → EvP
  | 0, s => s
  | q + 1, s => if l.length = 0 then ⟨(pk code s.c n).2, s.th, s.dead, s.out ++ [⟨5, (pk code s.c n).1, 0⟩]⟩ else evLoop code n l honest q (evStep code n l honest s)
def evDraw (code : List Int) (n : Int) (l : List S88) (honest : Bool) (c : Int × Int) : EvP :=
  evLoop code n l honest (pk code c 30).1.toNat ⟨(pk code c 30).2, List.replicate n.toNat 0, -1, []⟩
theorem mv_length (row : List Int) (f t : Int) : (mv row f t).length = row.length := by
  unfold mv
  by_cases h0 : 0 ≤ f <;> by_cases h1 : 0 ≤ t <;> simp [h0, h1]
end Go.Proofs.Ytpdnabhpkdchjaa.P
namespace Go.Proofs.Ytpdnabhpkdchjaa.P
open Go.RowKit Go.Proofs.YtpdnabhpkdchjaaW.PrintWords Go.Proofs.YtpdnabhpkdchjaaW.PrintLast Go.Proofs.YtpdnabhpkdchjaaW.PrintMore
set_option linter.unusedVariables false
section
variable {n : Int} {A : Option Addr} {c : Nat} {l : List S88} {w : World}
theorem lay_is (hr : Kd.C k88 w A l.length l) (hc : l.length ≤ c) : Calls Try.prog 25 #[.agg #[.int .i64 n, .slice A l.length c]] w fun e w' => e = .returned (.int .i64 (layoutOk n l)) ∧ Below w.heap.size w w' :=
  impl_LayoutOk.calls n A c l _ w hr hc rfl
theorem slay_is (hr : Kd.C k88 w A l.length l) (hc : l.length ≤ c) : Calls Try.prog 23 #[.agg #[.int .i64 n, .slice A l.length c]] w fun e w' => e = .returned (.int .i64 (layoutOk n l)) ∧ Below w.heap.size w w' := by
  obtain ⟨k, h⟩ := (specLayoutOk_ev n l).rounds
  exact spec_LayoutOk.calls k n A c l _ w hr hc h
theorem ev_is (op of dir : Int) (hr : Kd.C k88 w A l.length l) (hc : l.length ≤ c) : Calls Try.prog 36 #[.agg #[.int .i64 n, .slice A l.length c], .agg #[.int .i64 op, .int .i64 of, .int .i64 dir]] w fun e w' => e = .returned (.bool (eventOk n l op of dir)) ∧ Below w.heap.size w w' := by
  obtain ⟨k, h⟩ := (implEventOk_ev n l op of dir).rounds
  exact impl_EventOk.calls k n A c l op of dir _ w hr hc h
theorem ev_at {b : Bool} (op of dir : Int) (hb : eventOk n l op of dir = b) (hr : Kd.C k88 w A l.length l) (hc : l.length ≤ c) : Calls Try.prog 36 #[.agg #[.int .i64 n, .slice A l.length c], .agg #[.int .i64 op, .int .i64 of, .int .i64 dir]] w fun e w' => e = .returned (.bool b) ∧ Below w.heap.size w w' := hb ▸ ev_is op of dir hr hc
theorem sev_is (op of dir : Int) (hr : Kd.C k88 w A l.length l) (hc : l.length ≤ c) : Calls Try.prog 34 #[.agg #[.int .i64 n, .slice A l.length c], .agg #[.int .i64 op, .int .i64 of, .int .i64 dir]] w fun e w' => e = .returned (.bool (eventOk n l op of dir)) ∧ Below w.heap.size w w' := by
  obtain ⟨k, h⟩ := (specEventOk_ev n l op of dir).rounds
  exact spec_EventOk.calls k n A c l op of dir _ w hr hc h
variable {A1 : Option Addr} {c1 : Nat} {es : List S56}
end
end Go.Proofs.Ytpdnabhpkdchjaa.P
namespace Go.Proofs.Ytpdnabhpkdchjaa.P
open Go.RowKit Go.Proofs.YtpdnabhpkdchjaaW.PrintWords Go.Proofs.YtpdnabhpkdchjaaW.PrintLast Go.Proofs.YtpdnabhpkdchjaaW.PrintMore
set_option linter.unusedVariables false
set_option linter.unusedSimpArgs false
structure EvSt (w0 w W : World) (g gl : Nat) (code : List Int) (n : Int) (A : Option Addr) (len c1 : Nat) (c : Int × Int) (v7 v8 : Value) (out : List S56) (th : List Int) : Prop where
  cur : IsS116 w0 W g code c.1 c.2
  below : Below w0.heap.size w0 W
  keep : KeepBut w W g none
  box : W.heap[gl]? = some (.cells #[.int .i64 n, .slice A len c1] 30 (0, 0))
  le0 : w0.heap.size ≤ w.heap.size
  gw : w.heap.size ≤ gl
  o : Kd.R k56 56 W w.heap.size (fun _ => True) v7 out
  t : Kd.R (Kd.int .i64) 3 W w.heap.size (fun _ => True) v8 th
section
variable {w0 w W W' : World} {g gl len c1 : Nat} {code : List Int} {n : Int} {A : Option Addr} {c c' : Int × Int} {v7 v8 v1 : Value} {out out' : List S56} {th th' : List Int}
theorem EvSt.call (h : EvSt w0 w W g gl code n A len c1 c v7 v8 out th) (hi : IsS116 w0 W' g code c'.1 c'.2) (hb : Below w0.heap.size w0 W') (hk : KeepBut W W' g none) : EvSt w0 w W' g gl code n A len c1 c' v7 v8 out th where
  cur := hi
  below := hb
  keep := h.keep.trans hk (.inl rfl)
  box := hk.blk h.box (fun e => h.cur.ne_blk h.box (by decide) e.symm) (by simp)
  le0 := h.le0
  gw := h.gw
  o := Kd.R_mono (Kd.R_keep (h.cur.apart h.o (by decide)) hk (fun _ x => x.2)) (fun _ _ => trivial)
  t := Kd.R_mono (Kd.R_keep (h.cur.apart h.t (by decide)) hk (fun _ x => x.2)) (fun _ _ => trivial)
theorem EvSt.up (h : EvSt w0 w W g gl code n A len c1 c v7 v8 out th) (hb : Below W.heap.size W W') : EvSt w0 w W' g gl code n A len c1 c v7 v8 out th where
  cur := h.cur.below hb
  below := below_step h.below hb
  keep := h.keep.trans (KeepBut.of_below hb g none) (.inl rfl)
  box := blk_below h.box hb
  le0 := h.le0
  gw := h.gw
  o := Kd.R_below h.o hb
  t := Kd.R_below h.t hb
theorem EvSt.row (h : EvSt w0 w W g gl code n A len c1 c v7 v8 out th) (hr : Kd.R k56 56 W' w.heap.size (fun _ => True) v1 out') (hg : W.grownBy W' v7.ownBlock) : EvSt w0 w W' g gl code n A len c1 c v1 v8 out' th where
  cur := h.cur.grown hg (h.cur.own_ne h.o (by decide))
  below := pw_below_grown h.below _ h.below.size hg (fun k hk => Nat.le_trans h.le0 (Kd.R_base h.o k hk))
  keep := h.keep.trans (KeepBut.of_grown hg g) (Kd.R_base2 h.o)
  box := blk_grown h.box hg (Kd.R_ne h.o h.box (by decide))
  le0 := h.le0
  gw := h.gw
  o := hr
  t := Kd.R_over h.t h.o (by decide) hg
theorem EvSt.put (h : EvSt w0 w W g gl code n A len c1 c v7 v8 out th) (hr : Kd.R (Kd.int .i64) 3 W' w.heap.size (fun _ => True) v8 th') (hg : W.grownBy W' v8.ownBlock) : EvSt w0 w W' g gl code n A len c1 c v7 v8 out th' where
  cur := h.cur.grown hg (h.cur.own_ne h.t (by decide))
  below := pw_below_grown h.below _ h.below.size hg (fun k hk => Nat.le_trans h.le0 (Kd.R_base h.t k hk))
  keep := h.keep.trans (KeepBut.of_grown hg g) (Kd.R_base2 h.t)
  box := blk_grown h.box hg (Kd.R_ne h.t h.box (by decide))
  le0 := h.le0
  gw := h.gw
  o := Kd.R_over h.o h.t (by decide) hg
  t := hr
end
section
variable {w w' : World} {g : Nat}
theorem fill2 {x0 x1 y0 y1 : Value} (hx : w'.heap[g]? = some (.cells #[x0, x1] 88 (0, 0))) (hb : Below w.heap.size w w') (hg : w.heap.size ≤ g) :
    Below w.heap.size w ((w'.setCell ⟨g, 0, none⟩ y0).setCell ⟨g, 1, none⟩ y1) ∧ ((w'.setCell ⟨g, 0, none⟩ y0).setCell ⟨g, 1, none⟩ y1).heap[g]? = some (.cells #[y0, y1] 88 (0, 0)) :=
  ⟨below_set (j := 1) (v := y1) (below_set (j := 0) (v := y0) hb hg) hg, blk_put (blk_put hx 0 y0 rfl) 1 y1 rfl⟩
end
set_option maxHeartbeats 8000000 in
set_option maxRecDepth 100000 in
theorem events_is (g : Nat) (code : List Int) (c : Int × Int) (n : Int) (A : Option Addr) (c1 : Nat) (l : List S88) (honest : Bool) (b : Int) (w0 w : World) (hc : CurOk code b c) (hb : b ≤ 1000000000) (hI : IsS116 w0 w g code c.1 c.2) (hB : Below w0.heap.size w0 w) (hr : ∀ W_, KeepBut w W_ g none → Kd.C k88 W_ A l.length l) (hcl : l.length ≤ c1) (hl : layoutOk n l = 0) :
    Calls Try.prog 92 #[.pointer (some ⟨g, 0, none⟩), .agg #[.int .i64 n, .slice A l.length c1], .bool honest] w fun e w' => ∃ v0_ : Value, e = .returned v0_ ∧ Kd.R k56 56 w' w.heap.size (fun _ => True) v0_ (evDraw code n l honest c).out ∧ CurOk code (b + 500) (evDraw code n l honest c).c ∧ IsS116 w0 w' g code (evDraw code n l honest c).c.1 (evDraw code n l honest c).c.2 ∧ Below w0.heap.size w0 w' ∧ KeepBut w w' g none := by
  have HR := Aside0.mk hr
  have HCL := Aside0.mk hcl
  have HN := Aside0.mk (lay_n hl)
  have HL := Aside0.mk hl
  obtain ⟨nn, rfl⟩ := Int.eq_ofNat_of_zero_le (show 0 ≤ n by have := HN.out; omega)
  have HW := Aside0.mk hB.size
  have HC := Aside0.mk hc
  have HI := Aside0.mk hI
  have HB := Aside0.mk hB
  have HLB := Aside0.mk hb
  have Hg := Aside0.mk hI.lt
  clear hr hcl hc hI hB hb hl
  generalize hFD : evDraw code (nn : Int) l honest c = F
  have HFD := Aside0.mk hFD
  clear hFD
  go_enter Try.func92, Try.ntmps92
  go_upto_region 1 with ((with_reducible refine gate_dst (N := 4) rfl ?_); refine box_event ?hg (N := 4) ?hd (cs := #[.int .i64 (nn : Int), .slice A l.length c1]) (t := 30) ?hr ?_; (case hd => rfl); (case hg => rfl); (case hr => first | (go_simp; done) | (go_simp; rfl)); intro gl el wl kl bl; have KL := Aside0.mk kl; have GL := Aside0.mk (Nat.le_of_eq el.symm); have BL := Aside0.mk bl; clear kl bl el)
  have kl0 : wl.cell? ⟨gl, 0, none⟩ = some (.int .i64 (nn : Int)) := (blk_cell KL.out 0).trans rfl; have kl1 : wl.cell? ⟨gl, 1, none⟩ = some (.slice A l.length c1) := (blk_cell KL.out 1).trans rfl
  go_upto_region 4 with (go_at_call 23; refine (slay_is (HR.out _ (KeepBut.of_below BL.out g none)) HCL.out).mono ?_; rintro e w1 ⟨h, hs⟩; rw [HL.out] at h; subst h; have BL := Aside0.mk (below_step BL.out hs); have KL := Aside0.mk (blk_below KL.out hs); clear hs)
  clear kl0 kl1
  have kl0 : w1.cell? ⟨gl, 0, none⟩ = some (.int .i64 (nn : Int)) := (blk_cell KL.out 0).trans rfl; have kl1 : w1.cell? ⟨gl, 1, none⟩ = some (.slice A l.length c1) := (blk_cell KL.out 1).trans rfl
  go_upto_region 6 with ((with_reducible refine gate_dst (N := 23) rfl ?_); (try (refine gate_guard (by rfl) ?_; dsimp only)); refine Kd.R_make (Kd.int .i64) _ 3 rfl (N := 23) rfl 59 _ _ rfl (nn : Int) rfl rfl Try.underlying59 (.int .i64 0) 8 info3 rfl (by decide) (by omega) 0 (ok := fun _ => True) (okp := fun _ => True) rfl (fun _ hk => hk) trivial (by have := HN.out; omega) (by have := HN.out; omega) (Below.refl _ _) (Nat.le_refl _) ?_; intro v8 w2 ho hbm hgm hnm; have HT := Aside0.mk ho; have BM := Aside0.mk hbm; clear ho hbm hgm hnm)
  rw [Int.toNat_natCast] at HT
  obtain ⟨gt, ct, e, _, _, _⟩ := Kd.R_form HT.out (by rw [List.length_replicate]; have := HN.out; omega)
  rw [List.length_replicate] at e
  subst e
  have HS := Aside0.mk (EvSt.mk (W := w2) (c := c) (code := code) (v7 := .slice none 0 0) (out := []) (HI.out.below (below_step BL.out BM.out)) (below_step HB.out (below_step BL.out BM.out)) (KeepBut.of_below (below_step BL.out BM.out) g none) (blk_below KL.out BM.out) HW.out GL.out (Kd.R_nil _ _ _ _ _) (Kd.R_lower HT.out BL.out.size))
  clear kl0 kl1 KL BL BM HT HB
  go_upto_region 7 with (go_at_call 108; go_loud (refine (pick_is g w0 _ HC.out (by have := HLB.out; omega) (by decide) HS.out.cur HS.out.below).mono ?_; rintro e wp ⟨q, c2, rfl, hp, h0, h1, hc, hi, hb, hk⟩; have HPq := Aside0.mk hp; have H0q := Aside0.mk h0; have H1q := Aside0.mk h1; have HC := Aside0.mk hc; have HS0 := HS; have HS := Aside0.mk (HS.out.call hi hb hk); have hk_ := hk; clear hp h0 h1 hc hi hb hk; clear HS0 hk_))
  obtain ⟨q, rfl⟩ := Int.eq_ofNat_of_zero_le H0q.out
  have HF := Aside0.mk (show evLoop code (nn : Int) l honest q ⟨c2, List.replicate nn 0, -1, []⟩ = F by rw [← HFD.out, evDraw, HPq.out, Int.toNat_natCast]; rfl)
  clear HPq H0q HFD
  have Q30 := Aside0.mk (show q ≤ 30 by have := H1q.out; omega)
  clear H1q
  have HC := Aside0.mk (HC.out.mono (b' := b + 450 - 12 * q) (by have := Q30.out; omega))
  go_loopg [7, 9, 10] q (fun kq v7 v9 v10 w' => ∃ s : EvP, v10 = .int .i64 kq ∧ v9 = .int .i64 s.dead ∧ Aside0 (kq ≤ 30) ∧ Aside0 (evLoop code (nn : Int) l honest kq s = F) ∧ Aside0 (CurOk code (b + 450 - 12 * kq) s.c) ∧ Aside0 (EvSt w0 w w' g gl code (nn : Int) A l.length c1 s.c v7 (.slice (some ⟨gt, 0, none⟩) nn ct) s.out s.th) ∧ Aside0 (s.th.length = nn) ∧ Aside0 (s.out.length + kq ≤ 30))
  case atStart => exact ⟨⟨c2, List.replicate nn 0, -1, []⟩, rfl, rfl, Q30, HF, HC, HS, ⟨by simp⟩, ⟨by have := Q30.out; simpa using this⟩⟩
  case round =>
    clear HF Q30 HC HS
    obtain ⟨s, rfl, rfl, HQ, HF, HC, HS, HTL, HOL⟩ := hrel
    cases gk with
    | zero =>
      go_wp2_with fail
      go_ret
      have hF : s = F := HF.out
      subst hF
      exact ⟨_, rfl, HS.out.o, HC.out.mono (b' := b + 500) (by omega), HS.out.cur, HS.out.below, HS.out.keep⟩
    | succ q1 =>
      have hgt : decide ((0 : Int) < ((q1 + 1 : Nat) : Int)) = true := decide_eq_true (by omega)
      have kl0 : wr.cell? ⟨gl, 0, none⟩ = some (.int .i64 (nn : Int)) := (blk_cell HS.out.box 0).trans rfl; have kl1 : wr.cell? ⟨gl, 1, none⟩ = some (.slice A l.length c1) := (blk_cell HS.out.box 1).trans rfl
      by_cases hz : l.length = 0
      · have hz' : ((l.length : Int) == 0) = true := by simp [hz]
        have HF := Aside0.mk (show (⟨(pk code s.c (nn : Int)).2, s.th, s.dead, s.out ++ [⟨5, (pk code s.c (nn : Int)).1, 0⟩]⟩ : EvP) = F by have h := HF.out; rw [evLoop, if_pos hz] at h; exact h)
        clear hz
        go_wp2_with (first | (go_at_call 108; go_loud (refine (pick_is g w0 _ HC.out (by have := HLB.out; omega) (by have := HN.out; omega) HS.out.cur HS.out.below).mono ?_; rintro e wp ⟨v, c3, rfl, hp, h0, h1, hc, hi, hb, hk⟩; have HPv := Aside0.mk hp; have H0v := Aside0.mk h0; have H1v := Aside0.mk h1; have HC := Aside0.mk hc; have HS0 := HS; have HS := Aside0.mk (HS.out.call hi hb hk); have hk_ := hk; clear hp h0 h1 hc hi hb hk; clear kl0 kl1; clear HS0 hk_)) | (at_builtin; go_loud (refine Kd.R_append k56 w.heap.size rfl (.tmp 34) (.tmp 40) 35 56 (.agg #[.int .i64 0, .int .i64 0, .int .i64 0]) 24 rfl Try.underlying35 info56 rfl (by decide) (by decide) u7 s.out ⟨5, v, 0⟩ [.int .i64 5, .int .i64 v, .int .i64 0] (fun _ => True) (fun _ => False) rfl rfl (k56_mkM _ _ _ ⟨5, v, 0⟩) (fun k hk => hk.elim) (fun _ _ => trivial) HS.out.o (Below.refl _ _) HS.out.keep.1 (by have := HOL.out; omega) ?_; intro vn wn hs _ hg _; have HS := Aside0.mk (HS.out.row hs hg); clear hs hg)))
        go_ret
        have hF := HF.out
        rw [HPv.out] at hF
        subst hF
        exact ⟨_, rfl, HS.out.o, HC.out.mono (b' := b + 500) (by omega), HS.out.cur, HS.out.below, HS.out.keep⟩
      · have HZ := Aside0.mk (show (0 : Int) < (l.length : Int) by omega)
        have hz' : ((l.length : Int) == 0) = false := by simp [hz]
        have HF := Aside0.mk (show evLoop code (nn : Int) l honest q1 (evStep code (nn : Int) l honest s) = F by have h := HF.out; rw [evLoop, if_neg hz] at h; exact h)
        clear hz
        go_upto_region 12 with (go_at_call 108; go_loud (refine (pick_is g w0 _ HC.out (by have := HLB.out; omega) HZ.out HS.out.cur HS.out.below).mono ?_; rintro e wp ⟨k, c3, rfl, hp, h0, h1, hc, hi, hb, hk⟩; have HPk := Aside0.mk hp; have H0k := Aside0.mk h0; have H1k := Aside0.mk h1; have HC := Aside0.mk hc; have HS0 := HS; have HS := Aside0.mk (HS.out.call hi hb hk); have hk_ := hk; clear hp h0 h1 hc hi hb hk; clear kl0 kl1; clear HS0 hk_))
        obtain ⟨ad, e, x0, x1⟩ := at_T88 (HR.out _ HS.out.keep) k H0k.out H1k.out
        cases e
        have r0 := H0k.out
        have r1 := H1k.out
        have HX := Aside0.mk (lay_rd HL.out k r0 r1)
        obtain ⟨x, hx⟩ : ∃ x, x = rd_T88 l k := ⟨_, rfl⟩
        have HXE := Aside0.mk hx
        rw [← hx] at x0 x1 HX
        clear hx
        have kl0 : wp.cell? ⟨gl, 0, none⟩ = some (.int .i64 (nn : Int)) := (blk_cell HS.out.box 0).trans rfl; have kl1 : wp.cell? ⟨gl, 1, none⟩ = some (.slice (some ad) l.length c1) := (blk_cell HS.out.box 1).trans rfl
        go_upto_region 13 with ((with_reducible refine gate_dst (N := 12) rfl ?_); refine box_event ?hg (N := 12) ?hd (cs := #[.int .i64 0, .int .i64 0]) (t := 88) ?hr ?_; (case hd => rfl); (case hg => rfl); (case hr => first | (go_simp; done) | (go_simp; rfl)); intro gx ex wx kx bx; have EX := Aside0.mk ex; have KX := Aside0.mk kx; have BX := Aside0.mk bx; clear ex kx bx; have kx0 : wx.cell? ⟨gx, 0, none⟩ = some (.int .i64 0) := (blk_cell KX.out 0).trans rfl; have kx1 : wx.cell? ⟨gx, 1, none⟩ = some (.int .i64 0) := (blk_cell KX.out 1).trans rfl; have zkx0 := blk_frozen KX.out 0; have zkx1 := blk_frozen KX.out 1)
        have FX := Aside0.mk (fill2 (y0 := .int .i64 x.f0) (y1 := .int .i64 x.f1) KX.out BX.out (Nat.le_of_eq EX.out.symm))
        clear kx0 kx1 zkx0 zkx1 KX BX EX x0 x1 kl0 kl1
        generalize ((wx.setCell ⟨gx, 0, none⟩ (.int .i64 x.f0)).setCell ⟨gx, 1, none⟩ (.int .i64 x.f1)) = w4 at FX ⊢
        have HS := Aside0.mk (HS.out.up FX.out.1)
        have KX := Aside0.mk FX.out.2
        clear FX
        go_upto_region 26 with (go_at_call 108; go_loud (refine (pick_is g w0 _ HC.out (by have := HLB.out; omega) (by decide) HS.out.cur HS.out.below).mono ?_; rintro e wp ⟨a, c4, rfl, hp, h0, h1, hc, hi, hb, hk⟩; have HPa := Aside0.mk hp; have H0a := Aside0.mk h0; have H1a := Aside0.mk h1; have HC := Aside0.mk hc; have HS0 := HS; have HS := Aside0.mk (HS.out.call hi hb hk); have hk_ := hk; clear hp h0 h1 hc hi hb hk; have KX := Aside0.mk (hk_.blk KX.out (fun e => HS0.out.cur.ne_blk KX.out (by decide) e.symm) (by simp)); clear HS0 hk_))
        have HE := Aside0.mk (show evStep code (nn : Int) l honest s = (if a = 0 then ⟨(pk code c4 2).2, s.th, s.dead, s.out ++ [⟨2, k, wrap64 (1 - wrap64 (2 * (pk code c4 2).1))⟩]⟩ else if a = 1 then ⟨c4, s.th, k, s.out ++ [⟨3, k, 0⟩]⟩ else if a = 2 ∨ a = 3 then ⟨c4, s.th, -1, s.out ++ [⟨4, if 0 ≤ s.dead then s.dead else k, 0⟩]⟩
          else if a = 4 ∨ a = 5 ∨ a = 6 then evReset code (nn : Int) honest c4 s else evPass code x honest k c4 s) by unfold evStep; rw [HPk.out]; dsimp only; rw [HPa.out, HXE.out])
        have HC := Aside0.mk (HC.out.mono (b' := b + 450 - 12 * q1 - 8) (by omega))
        have W1 := Aside0.mk (show wrap64 (q1 : Int) = (q1 : Int) from wrap_id (by omega) (by have := HQ.out; omega))
        have ha : a = 0 ∨ a = 1 ∨ (a = 2 ∨ a = 3) ∨ (a = 4 ∨ a = 5 ∨ a = 6) ∨ 7 ≤ a := by have := H0a.out; omega
        clear HPk HPa HXE H0a H1a r0 r1
        rcases ha with rfl | rfl | ha | ha | ha
        · as_aux_lemma =>
          have HE2 := Aside0.mk (show evStep code (nn : Int) l honest s = ⟨(pk code c4 2).2, s.th, s.dead, s.out ++ [⟨2, k, wrap64 (1 - wrap64 (2 * (pk code c4 2).1))⟩]⟩ by rw [HE.out, if_pos rfl])
          go_wp2_with (first | (go_at_call 108; go_loud (refine (pick_is g w0 _ HC.out (by have := HLB.out; omega) (by decide) HS.out.cur HS.out.below).mono ?_; rintro e wp ⟨v, c5, rfl, hp, h0, h1, hc, hi, hb, hk⟩; have HPv := Aside0.mk hp; have H0v := Aside0.mk h0; have H1v := Aside0.mk h1; have HC := Aside0.mk hc; have HS0 := HS; have HS := Aside0.mk (HS.out.call hi hb hk); have hk_ := hk; clear hp h0 h1 hc hi hb hk; clear HS0 hk_)) | (at_builtin; go_loud (refine Kd.R_append k56 w.heap.size rfl (.tmp 110) (.tmp 117) 35 56 (.agg #[.int .i64 0, .int .i64 0, .int .i64 0]) 24 rfl Try.underlying35 info56 rfl (by decide) (by decide) u7 s.out ⟨2, k, (wrap64 (1 - wrap64 (2 * v)))⟩ [.int .i64 2, .int .i64 k, .int .i64 (wrap64 (1 - wrap64 (2 * v)))] (fun _ => True) (fun _ => False) rfl rfl (k56_mkM _ _ _ ⟨2, k, (wrap64 (1 - wrap64 (2 * v)))⟩) (fun k hk => hk.elim) (fun _ _ => trivial) HS.out.o (Below.refl _ _) HS.out.keep.1 (by have := HOL.out; omega) ?_; intro vn wn hs _ hg _; have HS := Aside0.mk (HS.out.row hs hg); clear hs hg)))
          go_roundg q1
          case measure => have := HQ.out; omega
          case rel => exact ⟨⟨c5, s.th, s.dead, s.out ++ [⟨2, k, wrap64 (1 - wrap64 (2 * v))⟩]⟩, congrArg (Value.int .i64) W1.out, rfl, ⟨by have := HQ.out; omega⟩, ⟨by have h := HF.out; rw [HE2.out, HPv.out] at h; exact h⟩, ⟨HC.out.mono (by omega)⟩, HS, HTL, ⟨by have := HOL.out; simp; omega⟩⟩
        · as_aux_lemma =>
          have HE2 := Aside0.mk (show evStep code (nn : Int) l honest s = ⟨c4, s.th, k, s.out ++ [⟨3, k, 0⟩]⟩ by rw [HE.out, if_neg (by decide), if_pos rfl])
          go_wp2_with (at_builtin; go_loud (refine Kd.R_append k56 w.heap.size rfl (.tmp 122) (.tmp 125) 35 56 (.agg #[.int .i64 0, .int .i64 0, .int .i64 0]) 24 rfl Try.underlying35 info56 rfl (by decide) (by decide) u7 s.out ⟨3, k, 0⟩ [.int .i64 3, .int .i64 k, .int .i64 0] (fun _ => True) (fun _ => False) rfl rfl (k56_mkM _ _ _ ⟨3, k, 0⟩) (fun k hk => hk.elim) (fun _ _ => trivial) HS.out.o (Below.refl _ _) HS.out.keep.1 (by have := HOL.out; omega) ?_; intro vn wn hs _ hg _; have HS := Aside0.mk (HS.out.row hs hg); clear hs hg))
          go_roundg q1
          case measure => have := HQ.out; omega
          case rel => exact ⟨⟨c4, s.th, k, s.out ++ [⟨3, k, 0⟩]⟩, congrArg (Value.int .i64) W1.out, rfl, ⟨by have := HQ.out; omega⟩, ⟨by have h := HF.out; rw [HE2.out] at h; exact h⟩, ⟨HC.out.mono (by omega)⟩, HS, HTL, ⟨by have := HOL.out; simp; omega⟩⟩
        · as_aux_lemma =>
          have HE2 := Aside0.mk (show evStep code (nn : Int) l honest s = ⟨c4, s.th, -1, s.out ++ [⟨4, if 0 ≤ s.dead then s.dead else k, 0⟩]⟩ by rw [HE.out, if_neg (by omega), if_neg (by omega), if_pos ha])
          by_cases hd : 0 ≤ s.dead
          · have hd' : decide (0 ≤ s.dead) = true := decide_eq_true hd
            rw [if_pos hd] at HE2
            clear hd
            rcases ha with rfl | rfl
            all_goals
              go_wp2_with (at_builtin; go_loud (refine Kd.R_append k56 w.heap.size rfl (.tmp 133) (.tmp 136) 35 56 (.agg #[.int .i64 0, .int .i64 0, .int .i64 0]) 24 rfl Try.underlying35 info56 rfl (by decide) (by decide) u7 s.out ⟨4, s.dead, 0⟩ [.int .i64 4, .int .i64 s.dead, .int .i64 0] (fun _ => True) (fun _ => False) rfl rfl (k56_mkM _ _ _ ⟨4, s.dead, 0⟩) (fun k hk => hk.elim) (fun _ _ => trivial) HS.out.o (Below.refl _ _) HS.out.keep.1 (by have := HOL.out; omega) ?_; intro vn wn hs _ hg _; have HS := Aside0.mk (HS.out.row hs hg); clear hs hg))
              go_roundg q1
              case measure => have := HQ.out; omega
              case rel => exact ⟨⟨c4, s.th, -1, s.out ++ [⟨4, s.dead, 0⟩]⟩, congrArg (Value.int .i64) W1.out, rfl, ⟨by have := HQ.out; omega⟩, ⟨by have h := HF.out; rw [HE2.out] at h; exact h⟩, ⟨HC.out.mono (by omega)⟩, HS, HTL, ⟨by have := HOL.out; simp; omega⟩⟩
          · have hd' : decide (0 ≤ s.dead) = false := decide_eq_false hd
            rw [if_neg hd] at HE2
            clear hd
            rcases ha with rfl | rfl
            all_goals
              go_wp2_with (at_builtin; go_loud (refine Kd.R_append k56 w.heap.size rfl (.tmp 133) (.tmp 136) 35 56 (.agg #[.int .i64 0, .int .i64 0, .int .i64 0]) 24 rfl Try.underlying35 info56 rfl (by decide) (by decide) u7 s.out ⟨4, k, 0⟩ [.int .i64 4, .int .i64 k, .int .i64 0] (fun _ => True) (fun _ => False) rfl rfl (k56_mkM _ _ _ ⟨4, k, 0⟩) (fun k hk => hk.elim) (fun _ _ => trivial) HS.out.o (Below.refl _ _) HS.out.keep.1 (by have := HOL.out; omega) ?_; intro vn wn hs _ hg _; have HS := Aside0.mk (HS.out.row hs hg); clear hs hg))
              go_roundg q1
              case measure => have := HQ.out; omega
              case rel => exact ⟨⟨c4, s.th, -1, s.out ++ [⟨4, k, 0⟩]⟩, congrArg (Value.int .i64) W1.out, rfl, ⟨by have := HQ.out; omega⟩, ⟨by have h := HF.out; rw [HE2.out] at h; exact h⟩, ⟨HC.out.mono (by omega)⟩, HS, HTL, ⟨by have := HOL.out; simp; omega⟩⟩
        · as_aux_lemma =>
          have HE2 := Aside0.mk (show evStep code (nn : Int) l honest s = evReset code (nn : Int) honest c4 s by rw [HE.out, if_neg (by omega), if_neg (by omega), if_neg (by omega), if_pos ha])
          have hb0 : (a == 0) = false := by simp; omega
          have hb1 : (a == 1) = false := by simp; omega
          have hb2 : (a == 2) = false := by simp; omega
          have hb3 : (a == 3) = false := by simp; omega
          go_upto_if 138 with fail
          go_cut [138] from 26 to 164 (fun y wx => y = .bool true ∧ wx = wp)
          case first =>
            rcases ha with rfl | rfl | rfl
            all_goals
              go_wp2_with fail
              go_meet
              exact ⟨rfl, rfl⟩
          case rest =>
            obtain ⟨rfl, rfl⟩ := hcut
            clear hb0 hb1 hb2 hb3
            have kl0 : wc.cell? ⟨gl, 0, none⟩ = some (.int .i64 (nn : Int)) := (blk_cell HS.out.box 0).trans rfl; have kl1 : wc.cell? ⟨gl, 1, none⟩ = some (.slice (some ad) l.length c1) := (blk_cell HS.out.box 1).trans rfl
            go_upto_region 41 with (go_at_call 108; go_loud (refine (pick_is g w0 _ HC.out (by have := HLB.out; omega) (by have := HN.out; omega) HS.out.cur HS.out.below).mono ?_; rintro e wp ⟨v, c5, rfl, hp, h0, h1, hc, hi, hb, hk⟩; have HPv := Aside0.mk hp; have H0v := Aside0.mk h0; have H1v := Aside0.mk h1; have HC := Aside0.mk hc; have HS0 := HS; have HS := Aside0.mk (HS.out.call hi hb hk); have hk_ := hk; clear hp h0 h1 hc hi hb hk; clear kl0 kl1; clear HS0 hk_))
            have r0 := H0v.out
            have r1 := H1v.out
            obtain ⟨y0, _⟩ := Kd.R_celln 0 HS.out.t v r0 r1
            have x0 : wp.cell? ⟨gt, v.toNat, none⟩ = some (.int .i64 (rd s.th v)) := y0
            clear y0
            go_cut [159] from 26 to 164 (fun y wx => ∃ c6 yes, y = .bool yes ∧ Aside0 (evAsk code (rd s.th v == 0) honest c5 4 = (yes, c6)) ∧ Aside0 (CurOk code (b + 450 - 12 * q1) c6) ∧ Aside0 (EvSt w0 w wx g gl code (nn : Int) (some ad) l.length c1 c6 u7 (.slice (some ⟨gt, 0, none⟩) nn ct) s.out s.th))
            case first =>
              cases hy : (rd s.th v == 0) with
              | true =>
                go_wp2_with fail
                go_meet
                exact ⟨c5, true, rfl, ⟨by rw [hy]; rfl⟩, ⟨HC.out.mono (by omega)⟩, HS⟩
              | false =>
                cases honest with
                | true =>
                  go_wp2_with fail
                  go_meet
                  exact ⟨c5, false, rfl, ⟨by rw [hy]; rfl⟩, ⟨HC.out.mono (by omega)⟩, HS⟩
                | false =>
                  go_wp2_with (go_at_call 108; go_loud (refine (pick_is g w0 _ HC.out (by have := HLB.out; omega) (by decide) HS.out.cur HS.out.below).mono ?_; rintro e wp ⟨u, c6, rfl, hp, h0, h1, hc, hi, hb, hk⟩; have HPu := Aside0.mk hp; have H0u := Aside0.mk h0; have H1u := Aside0.mk h1; have HC := Aside0.mk hc; have HS0 := HS; have HS := Aside0.mk (HS.out.call hi hb hk); have hk_ := hk; clear hp h0 h1 hc hi hb hk; clear x0; clear HS0 hk_))
                  go_meet
                  exact ⟨c6, u == 0, rfl, ⟨by rw [hy, evAsk, HPu.out]; rfl⟩, ⟨HC.out.mono (by omega)⟩, HS⟩
            case rest =>
              obtain ⟨c6, yes, rfl, HA, HC, HS⟩ := hcut
              clear x0
              cases yes with
              | true =>
                go_wp2_with (at_builtin; go_loud (refine Kd.R_append k56 w.heap.size rfl (.tmp 160) (.tmp 163) 35 56 (.agg #[.int .i64 0, .int .i64 0, .int .i64 0]) 24 rfl Try.underlying35 info56 rfl (by decide) (by decide) u7 s.out ⟨5, v, 0⟩ [.int .i64 5, .int .i64 v, .int .i64 0] (fun _ => True) (fun _ => False) rfl rfl (k56_mkM _ _ _ ⟨5, v, 0⟩) (fun k hk => hk.elim) (fun _ _ => trivial) HS.out.o (Below.refl _ _) HS.out.keep.1 (by have := HOL.out; omega) ?_; intro vn wn hs _ hg _; have HS := Aside0.mk (HS.out.row hs hg); clear hs hg))
                go_roundg q1
                case measure => have := HQ.out; omega
                case rel => exact ⟨⟨c6, s.th, s.dead, s.out ++ [⟨5, v, 0⟩]⟩, congrArg (Value.int .i64) W1.out, rfl, ⟨by have := HQ.out; omega⟩, ⟨by have h := HF.out; rw [HE2.out, evReset, HPv.out] at h; dsimp only at h; rw [HA.out, if_pos rfl] at h; exact h⟩, HC, HS, HTL, ⟨by have := HOL.out; simp; omega⟩⟩
              | false =>
                go_wp2_with fail
                go_roundg q1
                case measure => have := HQ.out; omega
                case rel => exact ⟨⟨c6, s.th, s.dead, s.out⟩, congrArg (Value.int .i64) W1.out, rfl, ⟨by have := HQ.out; omega⟩, ⟨by have h := HF.out; rw [HE2.out, evReset, HPv.out] at h; dsimp only at h; rw [HA.out] at h; exact h⟩, HC, HS, HTL, ⟨by have := HOL.out; show s.out.length + q1 ≤ 30; omega⟩⟩
        · as_aux_lemma =>
          have HE2 := Aside0.mk (show evStep code (nn : Int) l honest s = evPass code x honest k c4 s by rw [HE.out, if_neg (by omega), if_neg (by omega), if_neg (by omega), if_neg (by omega)])
          have hb0 : (a == 0) = false := by simp; omega
          have hb1 : (a == 1) = false := by simp; omega
          have hb2 : (a == 2) = false := by simp; omega
          have hb3 : (a == 3) = false := by simp; omega
          have hb4 : (a == 4) = false := by simp; omega
          have hb5 : (a == 5) = false := by simp; omega
          have hb6 : (a == 6) = false := by simp; omega
          clear HE ha
          go_upto_region 15 with (go_at_call 108; go_loud (refine (pick_is g w0 _ HC.out (by have := HLB.out; omega) (by decide) HS.out.cur HS.out.below).mono ?_; rintro e wp ⟨v, c5, rfl, hp, h0, h1, hc, hi, hb, hk⟩; have HPv := Aside0.mk hp; have H0v := Aside0.mk h0; have H1v := Aside0.mk h1; have HC := Aside0.mk hc; have HS0 := HS; have HS := Aside0.mk (HS.out.call hi hb hk); have hk_ := hk; clear hp h0 h1 hc hi hb hk; have KX := Aside0.mk (hk_.blk KX.out (fun e => HS0.out.cur.ne_blk KX.out (by decide) e.symm) (by simp)); clear HS0 hk_))
          clear hb0 hb1 hb2 hb3 hb4 hb5 hb6
          generalize hd : wrap64 (1 - wrap64 (2 * v)) = d
          have hft : ∃ f t, (decide (d < 0) = true ∧ f = x.f1 ∧ t = x.f0 ∨ decide (d < 0) = false ∧ f = x.f0 ∧ t = x.f1) ∧ (-1 ≤ f ∧ f < nn ∧ -1 ≤ t ∧ t < nn) ∧ evPass code x honest k c4 s = if (evAsk code (decide (f < 0) || decide (0 < rd s.th f)) honest c5 8).1 = true then ⟨(evAsk code (decide (f < 0) || decide (0 < rd s.th f)) honest c5 8).2, mv s.th f t, s.dead, s.out ++ [⟨1, k, d⟩]⟩ else ⟨(evAsk code (decide (f < 0) || decide (0 < rd s.th f)) honest c5 8).2, s.th, s.dead, s.out⟩ := by
            have hx := HX.out
            by_cases h : d < 0
            · exact ⟨x.f1, x.f0, .inl ⟨decide_eq_true h, rfl, rfl⟩, by omega, by unfold evPass; simp only [HPv.out, hd, if_pos h]⟩
            · exact ⟨x.f0, x.f1, .inr ⟨decide_eq_false h, rfl, rfl⟩, by omega, by unfold evPass; simp only [HPv.out, hd, if_neg h]⟩
          obtain ⟨f, t, hcase, hbd, hpass⟩ := hft
          have HBD := Aside0.mk hbd
          have HPS := Aside0.mk hpass
          have HD := Aside0.mk hd
          clear hbd hpass hd
          have kx0 : wp.cell? ⟨gx, 0, none⟩ = some (.int .i64 x.f0) := (blk_cell KX.out 0).trans rfl
          have kx1 : wp.cell? ⟨gx, 1, none⟩ = some (.int .i64 x.f1) := (blk_cell KX.out 1).trans rfl
          go_upto_if 63 with fail
          go_cut [15, 16] from 26 to 164 (fun y z wx => y = .int .i64 f ∧ z = .int .i64 t ∧ wx = wp)
          case first =>
            rcases hcase with ⟨hd, rfl, rfl⟩ | ⟨hd, rfl, rfl⟩
            all_goals
              rw [hd]
              go_wp2_with fail
              go_meet
              exact ⟨rfl, rfl, rfl⟩
          case rest =>
            obtain ⟨rfl, rfl, rfl⟩ := hcut
            clear hcase kx0 kx1
            go_upto_region 20 with fail
            go_cut [85] from 26 to 164 (fun y wx => ∃ c6 yes, y = .bool yes ∧ Aside0 (evAsk code (decide (f < 0) || decide (0 < rd s.th f)) honest c5 8 = (yes, c6)) ∧ Aside0 (CurOk code (b + 450 - 12 * q1) c6) ∧ Aside0 (EvSt w0 w wx g gl code (nn : Int) (some ad) l.length c1 c6 u7 (.slice (some ⟨gt, 0, none⟩) nn ct) s.out s.th))
            case first =>
              as_aux_lemma =>
              by_cases hf : f < 0
              · have hf' : decide (f < 0) = true := decide_eq_true hf
                clear hf
                go_wp2_with fail
                go_meet
                exact ⟨c5, true, rfl, ⟨by rw [hf']; rfl⟩, ⟨HC.out.mono (by omega)⟩, HS⟩
              · have hf' : decide (f < 0) = false := decide_eq_false hf
                have r0 : 0 ≤ f := by omega
                have r1 : f < (nn : Int) := HBD.out.2.1
                clear hf
                obtain ⟨y0, _⟩ := Kd.R_celln 0 HS.out.t f r0 r1
                have x0 : wc.cell? ⟨gt, f.toNat, none⟩ = some (.int .i64 (rd s.th f)) := y0
                clear y0
                cases hy : decide (0 < rd s.th f) with
                | true =>
                  go_wp2_with fail
                  go_meet
                  exact ⟨c5, true, rfl, ⟨by rw [hf', hy]; rfl⟩, ⟨HC.out.mono (by omega)⟩, HS⟩
                | false =>
                  cases honest with
                  | true =>
                    go_wp2_with fail
                    go_meet
                    exact ⟨c5, false, rfl, ⟨by rw [hf', hy]; rfl⟩, ⟨HC.out.mono (by omega)⟩, HS⟩
                  | false =>
                    go_wp2_with (go_at_call 108; go_loud (refine (pick_is g w0 _ HC.out (by have := HLB.out; omega) (by decide) HS.out.cur HS.out.below).mono ?_; rintro e wp ⟨u, c6, rfl, hp, h0, h1, hc, hi, hb, hk⟩; have HPu := Aside0.mk hp; have H0u := Aside0.mk h0; have H1u := Aside0.mk h1; have HC := Aside0.mk hc; have HS0 := HS; have HS := Aside0.mk (HS.out.call hi hb hk); have hk_ := hk; clear hp h0 h1 hc hi hb hk; clear x0; clear HS0 hk_))
                    go_meet
                    exact ⟨c6, u == 0, rfl, ⟨by rw [hf', hy, Bool.or_self, evAsk, HPu.out]; rfl⟩, ⟨HC.out.mono (by omega)⟩, HS⟩
            case rest =>
              obtain ⟨c6, yes, rfl, HA, HC, HS⟩ := hcut
              cases yes with
              | false =>
                go_wp2_with fail
                go_roundg q1
                case measure => have := HQ.out; omega
                case rel => exact ⟨⟨c6, s.th, s.dead, s.out⟩, congrArg (Value.int .i64) W1.out, rfl, ⟨by have := HQ.out; omega⟩, ⟨by have h := HF.out; rw [HE2.out, HPS.out, HA.out] at h; exact h⟩, HC, HS, HTL, ⟨by have := HOL.out; show s.out.length + q1 ≤ 30; omega⟩⟩
              | true =>
                have HF2 := Aside0.mk (show evLoop code (nn : Int) l honest q1 ⟨c6, mv s.th f t, s.dead, s.out ++ [⟨1, k, d⟩]⟩ = F by have h := HF.out; rw [HE2.out, HPS.out, HA.out] at h; exact h)
                clear HF HE2 HPS HA
                obtain ⟨th1, hth1⟩ : ∃ th1, th1 = if 0 ≤ f then s.th.set f.toNat (wrap64 (rd s.th f - 1)) else s.th := ⟨_, rfl⟩
                have HT1 := Aside0.mk hth1
                clear hth1
                go_upto_if 87 with fail
                go_cut [] from 26 to 164 (fun wx => Aside0 (EvSt w0 w wx g gl code (nn : Int) (some ad) l.length c1 c6 u7 (.slice (some ⟨gt, 0, none⟩) nn ct) s.out th1))
                case first =>
                  as_aux_lemma =>
                  by_cases hf : 0 ≤ f
                  · have hf' : decide (0 ≤ f) = true := decide_eq_true hf
                    have r1 : f < (nn : Int) := HBD.out.2.1
                    obtain ⟨y0, y1⟩ := Kd.R_celln 0 HS.out.t f hf r1
                    have x0 : wc.cell? ⟨gt, f.toNat, none⟩ = some (.int .i64 (rd s.th f)) := y0
                    have HP := Aside0.mk (Kd.R_putg HS.out.t f (wrap64 (rd s.th f - 1)))
                    clear y0
                    rw [hf']
                    go_wp2_with fail
                    go_meet
                    have h1 := HT1.out
                    rw [if_pos hf] at h1
                    subst h1
                    exact ⟨HS.out.put HP.out.1 HP.out.2⟩
                  · have hf' : decide (0 ≤ f) = false := decide_eq_false hf
                    rw [hf']
                    go_wp2_with fail
                    go_meet
                    have h1 := HT1.out
                    rw [if_neg (show ¬ 0 ≤ f by omega)] at h1
                    subst h1
                    exact HS
                case rest =>
                  have HS := hcut
                  clear hcut
                  go_upto_if 95 with fail
                  go_cut [] from 26 to 164 (fun wx => Aside0 (EvSt w0 w wx g gl code (nn : Int) (some ad) l.length c1 c6 u7 (.slice (some ⟨gt, 0, none⟩) nn ct) s.out (mv s.th f t)))
                  case first =>
                    as_aux_lemma =>
                    have HM := Aside0.mk (show mv s.th f t = if 0 ≤ t then th1.set t.toNat (wrap64 (rd th1 t + 1)) else th1 by rw [HT1.out]; rfl)
                    by_cases hf : 0 ≤ t
                    · have hf' : decide (0 ≤ t) = true := decide_eq_true hf
                      have r1 : t < (nn : Int) := HBD.out.2.2.2
                      obtain ⟨y0, y1⟩ := Kd.R_celln 0 HS.out.t t hf r1
                      have x0 : wc.cell? ⟨gt, t.toNat, none⟩ = some (.int .i64 (rd th1 t)) := y0
                      have HP := Aside0.mk (Kd.R_putg HS.out.t t (wrap64 (rd th1 t + 1)))
                      clear y0
                      rw [hf']
                      go_wp2_with fail
                      go_meet
                      have h1 := HM.out
                      rw [if_pos hf] at h1
                      rw [h1]
                      exact ⟨HS.out.put HP.out.1 HP.out.2⟩
                    · have hf' : decide (0 ≤ t) = false := decide_eq_false hf
                      rw [hf']
                      go_wp2_with fail
                      go_meet
                      have h1 := HM.out
                      rw [if_neg (show ¬ 0 ≤ t by omega)] at h1
                      rw [h1]
                      exact HS
                  case rest =>
                    as_aux_lemma =>
                    have HS := hcut
                    clear hcut
                    go_wp2_with (at_builtin; go_loud (refine Kd.R_append k56 w.heap.size rfl (.tmp 102) (.tmp 106) 35 56 (.agg #[.int .i64 0, .int .i64 0, .int .i64 0]) 24 rfl Try.underlying35 info56 rfl (by decide) (by decide) u7 s.out ⟨1, k, d⟩ [.int .i64 1, .int .i64 k, .int .i64 d] (fun _ => True) (fun _ => False) rfl rfl (k56_mkM _ _ _ ⟨1, k, d⟩) (fun k hk => hk.elim) (fun _ _ => trivial) HS.out.o (Below.refl _ _) HS.out.keep.1 (by have := HOL.out; omega) ?_; intro vn wn hs _ hg _; have HS := Aside0.mk (HS.out.row hs hg); clear hs hg))
                    go_roundg q1
                    case measure => have := HQ.out; omega
                    case rel => exact ⟨⟨c6, mv s.th f t, s.dead, s.out ++ [⟨1, k, d⟩]⟩, congrArg (Value.int .i64) W1.out, rfl, ⟨by have := HQ.out; omega⟩, HF2, HC, HS, ⟨by rw [mv_length]; exact HTL.out⟩, ⟨by have := HOL.out; simp; omega⟩⟩
end Go.Proofs.Ytpdnabhpkdchjaa.P
namespace Go.Proofs.Ytpdnabhpkdchjaa.P
open Go.RowKit Go.Proofs.YtpdnabhpkdchjaaW.PrintWords Go.Proofs.YtpdnabhpkdchjaaW.PrintLast Go.Proofs.YtpdnabhpkdchjaaW.PrintMore
set_option linter.unusedVariables false
set_option linter.unusedSimpArgs false
structure DrSt (w W : World) (gr gl gc : Nat) (code : List Int) (c : Int × Int) (n : Int) (A1 : Option Addr) (c1 : Nat) (l : List S88) : Prop where
  cur : IsS116 w W gc code c.1 c.2
  below : Below w.heap.size w W
  res : W.heap[gr]? = some (.cells #[.int .i64 0, .slice none 0 0] 30 (0, 0))
  lay : W.heap[gl]? = some (.cells #[.int .i64 n, .slice A1 l.length c1] 30 (0, 0))
  gre : w.heap.size ≤ gr
  ne : gl ≠ gr
  o : Kd.R k88 88 W w.heap.size (fun _ => True) (.slice A1 l.length c1) l
section
variable {w W W' : World} {gr gl gc c1 : Nat} {code : List Int} {c c' : Int × Int} {n : Int} {A1 : Option Addr} {l : List S88}
theorem DrSt.call (h : DrSt w W gr gl gc code c n A1 c1 l) (hi : IsS116 w W' gc code c'.1 c'.2) (hb : Below w.heap.size w W') (hk : KeepBut W W' gc none) : DrSt w W' gr gl gc code c' n A1 c1 l where
  cur := hi
  below := hb
  res := hk.blk h.res (fun e => h.cur.ne_blk h.res (by decide) e.symm) (by simp)
  lay := hk.blk h.lay (fun e => h.cur.ne_blk h.lay (by decide) e.symm) (by simp)
  gre := h.gre
  ne := h.ne
  o := Kd.R_mono (Kd.R_keep (h.cur.apart h.o (by decide)) hk (fun _ x => x.2)) (fun _ _ => trivial)
theorem DrSt.reads (h : DrSt w W gr gl gc code c n A1 c1 l) : ∀ W_, KeepBut W W_ gc none → Kd.C k88 W_ A1 l.length l := fun W_ hk => (Kd.R_reads' (Kd.R_keep (h.cur.apart h.o (by decide)) hk (fun _ x => x.2))).2.2
theorem DrSt.fin (h : DrSt w W gr gl gc code c n A1 c1 l) : ((W.setCell ⟨gr, 0, none⟩ (.int .i64 n)).setCell ⟨gr, 1, none⟩ (.slice A1 l.length c1)).heap[gr]? = some (.cells #[.int .i64 n, .slice A1 l.length c1] 30 (0, 0)) := blk_put (blk_put h.res 0 (.int .i64 n) rfl) 1 (.slice A1 l.length c1) rfl
theorem DrSt.finB (h : DrSt w W gr gl gc code c n A1 c1 l) : Below w.heap.size w ((W.setCell ⟨gr, 0, none⟩ (.int .i64 n)).setCell ⟨gr, 1, none⟩ (.slice A1 l.length c1)) := below_set (j := 1) (below_set (j := 0) h.below h.gre) h.gre
theorem DrSt.finR {α : Type} {d : Kd α} {e : Nat} {v : Value} {xs : List α} (h : DrSt w W gr gl gc code c n A1 c1 l) (hr : Kd.R d e W w.heap.size (fun _ => True) v xs) (ht : ∀ q, q ∈ e :: d.E → q ≠ 30) : Kd.R d e ((W.setCell ⟨gr, 0, none⟩ (.int .i64 n)).setCell ⟨gr, 1, none⟩ (.slice A1 l.length c1)) w.heap.size (fun _ => True) v xs :=
  Kd.R_set (Kd.R_set hr h.res ht 0 (.int .i64 n)) (blk_put h.res 0 (.int .i64 n) rfl) ht 1 (.slice A1 l.length c1)
end
set_option maxHeartbeats 8000000 in
set_option maxRecDepth 100000 in
theorem drawn_is {code : List Int} (hby : ∀ x ∈ code, 0 ≤ x ∧ x < 256) (honest : Bool) : ∃ n l c', 1 ≤ n ∧ n ≤ 5 ∧ l.length ≤ 9 ∧ layoutOk n l = 0 ∧ CurOk code 100 c' ∧
    ∀ (A : Option Addr) (cap : Nat) (w : World), Kd.C (Kd.int .u8) w A code.length code → Calls Try.prog 27 #[.slice A code.length cap, .bool honest] w fun e w' =>
      ∃ A1 c1 v2, e = .returned (.tuple #[.agg #[.int .i64 n, .slice A1 l.length c1], v2]) ∧ Kd.R k88 88 w' w.heap.size (fun _ => True) (.slice A1 l.length c1) l ∧ Kd.R k56 56 w' w.heap.size (fun _ => True) v2 (evDraw code n l honest c').out ∧ Below w.heap.size w w' := by
  obtain ⟨k, n, l, c', hlay, n0, n1, hll, hlo, hc'⟩ := layD (b := 0) (c := (0, 0)) ⟨hby, Int.le_refl _, Int.le_refl _⟩ (by decide)
  refine ⟨n, l, c', n0, n1, hll, hlo, hc'.mono (by decide), fun A cap w hA => ?_⟩
  have HA := Aside0.mk hA
  have HLAY := Aside0.mk hlay
  have HLO := Aside0.mk hlo
  have HLL := Aside0.mk hll
  have HC := Aside0.mk hc'
  clear hA hlay hlo hll hc' n0 n1 hby
  generalize hF : (evDraw code n l honest c').out = F
  have HF := Aside0.mk hF
  clear hF
  go_enter Try.func27, Try.ntmps27
  go_upto_region 1 with ((with_reducible refine gate_dst (N := 4) rfl ?_); refine box_event ?hg (N := 4) ?hd (cs := #[.int .i64 0, .slice none 0 0]) (t := 30) ?hr ?_; (case hd => rfl); (case hg => rfl); (case hr => first | (go_simp; done) | (go_simp; rfl)); intro gr er wr kr br; have KR := Aside0.mk kr; have GR := Aside0.mk (Nat.le_of_eq er.symm); have BR := Aside0.mk br; clear kr br er)
  go_upto_region 2 with ((with_reducible refine gate_dst (N := 10) rfl ?_); refine box_event ?hg (N := 10) ?hd (cs := #[.slice A code.length cap, .int .i64 0, .int .u64 0]) (t := 116) ?hr ?_; (case hd => rfl); (case hg => rfl); (case hr => first | (go_simp; done) | (go_simp; rfl)); intro gc ec wc kc bc; have KC := Aside0.mk kc; have GC := Aside0.mk (Nat.le_of_eq ec.symm); have BC := Aside0.mk bc; clear kc bc ec)
  have HI := Aside0.mk (show IsS116 w wc gc code 0 0 from ⟨A, cap, KC.out, Nat.le_trans BR.out.size GC.out, HA.out⟩)
  have KR := Aside0.mk (blk_below KR.out BC.out)
  have BC := Aside0.mk (below_step BR.out BC.out)
  clear BR KC
  go_upto_region 3 with (first | (go_at_call 91; refine (spec_l5Cur_layout.calls k gc code 0 0 n l c'.1 c'.2 w _ HI.out BC.out HLAY.out).mono ?_; rintro e w1 ⟨v1, rfl, ho, hi, hb, hk⟩; obtain ⟨A1, c1, rfl⟩ := Kd.R_slice ho; have HI0 := HI; have HO := Aside0.mk (Kd.R_lower ho BC.out.size); have KR := Aside0.mk (hk.blk KR.out (fun e => HI0.out.ne_blk KR.out (by decide) e.symm) (by simp)); have BC := Aside0.mk hb; have HI := Aside0.mk hi; clear ho hi hb hk HI0) | ((with_reducible refine gate_dst (N := 7) rfl ?_); refine box_event ?hg (N := 7) ?hd (cs := #[.int .i64 0, .slice none 0 0]) (t := 30) ?hr ?_; (case hd => rfl); (case hg => rfl); (case hr => first | (go_simp; done) | (go_simp; rfl)); intro gl el wl kl bl; have KL := Aside0.mk kl; have GL := Aside0.mk el; have BL := Aside0.mk bl; clear kl bl el; have kl0 : wl.cell? ⟨gl, 0, none⟩ = some (.int .i64 0) := (blk_cell KL.out 0).trans rfl; have kl1 : wl.cell? ⟨gl, 1, none⟩ = some (.slice none 0 0) := (blk_cell KL.out 1).trans rfl; have zkl0 := blk_frozen KL.out 0; have zkl1 := blk_frozen KL.out 1))
  have NE := Aside0.mk (show gl ≠ gr from fun e => by have h := blk_lt KR.out; have := GL.out; omega)
  have FX := Aside0.mk (show Below w1.heap.size w1 ((wl.setCell ⟨gl, 0, none⟩ (.int .i64 n)).setCell ⟨gl, 1, none⟩ (.slice A1 l.length c1)) ∧ ((wl.setCell ⟨gl, 0, none⟩ (.int .i64 n)).setCell ⟨gl, 1, none⟩ (.slice A1 l.length c1)).heap[gl]? = some (.cells #[.int .i64 n, .slice A1 l.length c1] 30 (0, 0)) from ⟨below_set (j := 1) (below_set (j := 0) BL.out (Nat.le_of_eq GL.out.symm)) (Nat.le_of_eq GL.out.symm), blk_put (blk_put KL.out 0 (.int .i64 n) rfl) 1 (.slice A1 l.length c1) rfl⟩)
  clear kl0 kl1 zkl0 zkl1 KL BL GL
  generalize ((wl.setCell ⟨gl, 0, none⟩ (.int .i64 n)).setCell ⟨gl, 1, none⟩ (.slice A1 l.length c1)) = w2 at FX ⊢
  have HS := Aside0.mk (DrSt.mk (W := w2) (gr := gr) (gl := gl) (gc := gc) (code := code) (c := c') (n := n) (A1 := A1) (c1 := c1) (l := l) (HI.out.below FX.out.1) (below_step BC.out FX.out.1) (blk_below KR.out FX.out.1) FX.out.2 GR.out NE.out (Kd.R_below HO.out FX.out.1))
  clear HI BC KR FX HO
  have HS := Aside0.mk (HS.out.call (W' := w2.drew) (c' := c') HS.out.cur.drew (below_drew1 HS.out.below) (keep_drew (KeepBut.refl _ _ _)))
  have e0 : w2.drew.cell? ⟨gl, 0, none⟩ = some (.int .i64 n) := (blk_cell HS.out.lay 0).trans rfl
  have e1 : w2.drew.cell? ⟨gl, 1, none⟩ = some (.slice A1 l.length c1) := (blk_cell HS.out.lay 1).trans rfl
  have z0 := blk_frozen HS.out.res 0
  have z1 := blk_frozen HS.out.res 1
  have y0 : w2.drew.cell? ⟨gr, 0, none⟩ = some (.int .i64 0) := (blk_cell HS.out.res 0).trans rfl
  have y1 : w2.drew.cell? ⟨gr, 1, none⟩ = some (.slice none 0 0) := (blk_cell HS.out.res 1).trans rfl
  have n1 := NE.out
  go_region_with (go_at_call 92; refine (events_is gc code c' n A1 c1 l honest 50 w _ HC.out (by decide) HS.out.cur HS.out.below HS.out.reads (Kd.R_reads' HS.out.o).2.1 HLO.out).mono ?_; rintro e w3 ⟨v2, rfl, ho, hc3, hi, hb, hk⟩; have HO2 := Aside0.mk (Kd.R_lower ho HS.out.below.size); have HS := Aside0.mk (HS.out.call (c' := (evDraw code n l honest c').c) hi hb hk); clear ho hc3 hi hb hk e0 e1 y0 y1 z0 z1; have e0 : w3.cell? ⟨gl, 0, none⟩ = some (.int .i64 n) := (blk_cell HS.out.lay 0).trans rfl; have e1 : w3.cell? ⟨gl, 1, none⟩ = some (.slice A1 l.length c1) := (blk_cell HS.out.lay 1).trans rfl; have z0 := blk_frozen HS.out.res 0; have z1 := blk_frozen HS.out.res 1; have y0 : w3.cell? ⟨gr, 0, none⟩ = some (.int .i64 0) := (blk_cell HS.out.res 0).trans rfl; have y1 : w3.cell? ⟨gr, 1, none⟩ = some (.slice none 0 0) := (blk_cell HS.out.res 1).trans rfl)
  all_goals
    go_wp2_with fail
    refine bodyPost_ret (results_ct rfl _ _ gr 30 #[.int .i64 n, .slice A1 l.length c1] (0, 0) _ rfl HS.out.fin Try.underlying30 rfl (by kernel_rfl)) rfl ?_
    refine ⟨A1, c1, v2, rfl, HS.out.finR HS.out.o (by decide), ?_, HS.out.finB⟩
    rw [← HF.out]
    exact HS.out.finR HO2.out (by decide)
end Go.Proofs.Ytpdnabhpkdchjaa.P
namespace Go.Proofs.Ytpdnabhpkdchjaa.P
open Go.RowKit Go.Proofs.YtpdnabhpkdchjaaW.PrintWords Go.Proofs.YtpdnabhpkdchjaaW.PrintLast Go.Proofs.YtpdnabhpkdchjaaW.PrintMore
set_option linter.unusedVariables false
set_option linter.unusedSimpArgs false
section
variable {w : World} {base : Nat} {ok : Nat → Prop} {g n c : Nat} {l : List S50}
theorem sec_at (h : Kd.R k50 50 w base ok (.slice (some ⟨g, 0, none⟩) n c) l) (i : Int) (h0 : 0 ≤ i) (h1 : i < n) :
    w.cell? ⟨g, i.toNat * 5, none⟩ = some (.int .i64 (rd_T50 l i).f0) ∧ w.cell? ⟨g, i.toNat * 5 + 1, none⟩ = some (.int .i64 (rd_T50 l i).f1) ∧ w.cell? ⟨g, i.toNat * 5 + 2, none⟩ = some (.bool (rd_T50 l i).f2) ∧
    w.cell? ⟨g, i.toNat * 5 + 3, none⟩ = some (.bool (rd_T50 l i).f3) ∧ w.cell? ⟨g, i.toNat * 5 + 4, none⟩ = some (.int .i64 (rd_T50 l i).f4) ∧
    w.frozen? ⟨g, i.toNat * 5, none⟩ = false ∧ w.frozen? ⟨g, i.toNat * 5 + 1, none⟩ = false ∧ w.frozen? ⟨g, i.toNat * 5 + 2, none⟩ = false ∧ w.frozen? ⟨g, i.toNat * 5 + 3, none⟩ = false ∧ w.frozen? ⟨g, i.toNat * 5 + 4, none⟩ = false := by
  obtain ⟨ce, hcl, hM, hcc, hfr⟩ := Kd.R_elem h z50 i h0 h1
  obtain rfl := k50_openM hM
  exact ⟨hcc 0 _ rfl, hcc 1 _ rfl, hcc 2 _ rfl, hcc 3 _ rfl, hcc 4 _ rfl, hfr 0, hfr 1, hfr 2, hfr 3, hfr 4⟩
theorem sec_put (h : Kd.R k50 50 w base ok (.slice (some ⟨g, 0, none⟩) n c) l) (i : Int) (h0 : 0 ≤ i) (h1 : i < n) (j : Nat) (hj : j < 5) (u : Value) (x' : S50)
    (hx : ([.int .i64 (rd_T50 l i).f0, .int .i64 (rd_T50 l i).f1, .bool (rd_T50 l i).f2, .bool (rd_T50 l i).f3, .int .i64 (rd_T50 l i).f4] : List Value).take j ++ [u] ++ ([.int .i64 (rd_T50 l i).f0, .int .i64 (rd_T50 l i).f1, .bool (rd_T50 l i).f2, .bool (rd_T50 l i).f3, .int .i64 (rd_T50 l i).f4] : List Value).drop (j + 1) = [.int .i64 x'.f0, .int .i64 x'.f1, .bool x'.f2, .bool x'.f3, .int .i64 x'.f4]) :
    Kd.R k50 50 (w.setCell ⟨g, i.toNat * 5 + j, none⟩ u) base ok (.slice (some ⟨g, 0, none⟩) n c) (l.set i.toNat x') ∧ w.grownBy (w.setCell ⟨g, i.toNat * 5 + j, none⟩ u) (some g) := by
  obtain ⟨ce, hcl, hM, hcc, hfr⟩ := Kd.R_elem h z50 i h0 h1
  have hM0 := k50_openM hM
  change ce = [.int .i64 (rd_T50 l i).f0, .int .i64 (rd_T50 l i).f1, .bool (rd_T50 l i).f2, .bool (rd_T50 l i).f3, .int .i64 (rd_T50 l i).f4] at hM0
  subst hM0
  have HP := Kd.R_seg h i h0 h1 (seg := [u]) (j := j) (okp := fun k => ok k ∧ k ≠ g) hcl hcc (show j + 1 ≤ 5 by omega) (x' := x') (by
    have e : ([.int .i64 (rd_T50 l i).f0, .int .i64 (rd_T50 l i).f1, .bool (rd_T50 l i).f2, .bool (rd_T50 l i).f3, .int .i64 (rd_T50 l i).f4] : List Value).take j ++ [u] ++ ([.int .i64 (rd_T50 l i).f0, .int .i64 (rd_T50 l i).f1, .bool (rd_T50 l i).f2, .bool (rd_T50 l i).f3, .int .i64 (rd_T50 l i).f4] : List Value).drop (j + 1) = _ := hx
    show k50.M w base _ x' (_ ++ [u] ++ List.drop (j + 1) _)
    rw [e]
    exact k50_mkM _ _ _ x') (fun _ hk => hk)
  exact HP
def SecSt (base : Nat) (ok : Nat → Prop) (g n c : Nat) (l : List S50) (i : Int) (w0 w : World) (y : S50) : Prop :=
  Kd.R k50 50 w base ok (.slice (some ⟨g, 0, none⟩) n c) (l.set i.toNat y) ∧ w0.grownBy w (some g)
variable {i : Int} {w0 : World} {a0 a1 a4 : Int} {a2 a3 : Bool}
theorem SecSt.start (h : Kd.R k50 50 w base ok (.slice (some ⟨g, 0, none⟩) n c) l) (h0 : 0 ≤ i) (h1 : i < n) : SecSt base ok g n c l i w w ⟨(rd_T50 l i).f0, (rd_T50 l i).f1, (rd_T50 l i).f2, (rd_T50 l i).f3, (rd_T50 l i).f4⟩ := by
  refine ⟨?_, World.grownBy.refl w _⟩
  have hl := (Kd.R_reads' h).1
  have e : l.set i.toNat ⟨(rd_T50 l i).f0, (rd_T50 l i).f1, (rd_T50 l i).f2, (rd_T50 l i).f3, (rd_T50 l i).f4⟩ = l := by
    have hlt : i.toNat < l.length := by omega
    show l.set i.toNat (rd_T50 l i) = l
    simp only [rd_T50, List.getD_eq_getElem?_getD, List.getElem?_eq_getElem hlt, Option.getD_some, List.set_getElem_self]
  rw [e]
  exact h
theorem SecSt.put (h : SecSt base ok g n c l i w0 w ⟨a0, a1, a2, a3, a4⟩) (h0 : 0 ≤ i) (h1 : i < n) (j : Nat) (hj : j < 5) (u : Value) (x' : S50)
    (hx : ([.int .i64 a0, .int .i64 a1, .bool a2, .bool a3, .int .i64 a4] : List Value).take j ++ [u] ++ ([.int .i64 a0, .int .i64 a1, .bool a2, .bool a3, .int .i64 a4] : List Value).drop (j + 1) = [.int .i64 x'.f0, .int .i64 x'.f1, .bool x'.f2, .bool x'.f3, .int .i64 x'.f4]) :
    SecSt base ok g n c l i w0 (w.setCell ⟨g, i.toNat * 5 + j, none⟩ u) x' := by
  have hl := (Kd.R_reads' h.1).1
  have hlt : i.toNat < l.length := by simp at hl; omega
  have e : rd_T50 (l.set i.toNat ⟨a0, a1, a2, a3, a4⟩) i = ⟨a0, a1, a2, a3, a4⟩ := by
    simp [rd_T50, List.getD_eq_getElem?_getD, List.getElem?_set_self hlt]
  obtain ⟨h2, h3⟩ := sec_put h.1 i h0 h1 j hj u x' (by rw [e]; exact hx)
  rw [List.set_set] at h2
  exact ⟨h2, h.2.trans h3⟩
theorem SecSt.put0 (h : SecSt base ok g n c l i w0 w ⟨a0, a1, a2, a3, a4⟩) (h0 : 0 ≤ i) (h1 : i < n) {u : Int} {off : Nat} (ho : off = i.toNat * 5 + 0) : SecSt base ok g n c l i w0 (w.setCell ⟨g, off, none⟩ (.int .i64 u)) ⟨u, a1, a2, a3, a4⟩ := ho ▸ h.put h0 h1 0 (by omega) _ _ rfl
theorem SecSt.put1 (h : SecSt base ok g n c l i w0 w ⟨a0, a1, a2, a3, a4⟩) (h0 : 0 ≤ i) (h1 : i < n) {u : Int} {off : Nat} (ho : off = i.toNat * 5 + 1) : SecSt base ok g n c l i w0 (w.setCell ⟨g, off, none⟩ (.int .i64 u)) ⟨a0, u, a2, a3, a4⟩ := ho ▸ h.put h0 h1 1 (by omega) _ _ rfl
theorem SecSt.put2 (h : SecSt base ok g n c l i w0 w ⟨a0, a1, a2, a3, a4⟩) (h0 : 0 ≤ i) (h1 : i < n) {u : Bool} {off : Nat} (ho : off = i.toNat * 5 + 2) : SecSt base ok g n c l i w0 (w.setCell ⟨g, off, none⟩ (.bool u)) ⟨a0, a1, u, a3, a4⟩ := ho ▸ h.put h0 h1 2 (by omega) _ _ rfl
theorem SecSt.put3 (h : SecSt base ok g n c l i w0 w ⟨a0, a1, a2, a3, a4⟩) (h0 : 0 ≤ i) (h1 : i < n) {u : Bool} {off : Nat} (ho : off = i.toNat * 5 + 3) : SecSt base ok g n c l i w0 (w.setCell ⟨g, off, none⟩ (.bool u)) ⟨a0, a1, a2, u, a4⟩ := ho ▸ h.put h0 h1 3 (by omega) _ _ rfl
theorem SecSt.put4 (h : SecSt base ok g n c l i w0 w ⟨a0, a1, a2, a3, a4⟩) (h0 : 0 ≤ i) (h1 : i < n) {u : Int} {off : Nat} (ho : off = i.toNat * 5 + 4) : SecSt base ok g n c l i w0 (w.setCell ⟨g, off, none⟩ (.int .i64 u)) ⟨a0, a1, a2, a3, u⟩ := ho ▸ h.put h0 h1 4 (by omega) _ _ rfl
theorem SecSt.eq {y z : S50} (h : SecSt base ok g n c l i w0 w y) (e : z = y) : SecSt base ok g n c l i w0 w z := e ▸ h
end
def cntN (x : S50) (b : Int) : Int := if -1000000 ≤ wrap64 (x.f1 + b) ∧ wrap64 (x.f1 + b) ≤ 1000000 then wrap64 (x.f1 + b) else x.f1
def countS (x : S50) (b : Int) : S50 := ⟨x.f0, cntN x b, x.f2 || decide (cntN x b < 0), x.f3 && !(decide (cntN x b = 0) && decide (b = -1)), b⟩
theorem cnt_in {x : S50} {b : Int} (h1 : -1000000 ≤ wrap64 (x.f1 + b)) (h2 : wrap64 (x.f1 + b) ≤ 1000000) : cntN x b = wrap64 (x.f1 + b) := by unfold cntN; rw [if_pos ⟨h1, h2⟩]
theorem cnt_lo {x : S50} {b : Int} (h1 : ¬ -1000000 ≤ wrap64 (x.f1 + b)) : cntN x b = x.f1 := by unfold cntN; rw [if_neg (fun h => h1 h.1)]
theorem cnt_hi {x : S50} {b : Int} (h1 : ¬ wrap64 (x.f1 + b) ≤ 1000000) : cntN x b = x.f1 := by unfold cntN; rw [if_neg (fun h => h1 h.2)]
theorem countS_eq {x : S50} {b C : Int} {lost sw : Bool} (hC : cntN x b = C) (hl : (x.f2 || decide (C < 0)) = lost) (hs : (x.f3 && !(decide (C = 0) && decide (b = -1))) = sw) : countS x b = ⟨x.f0, C, lost, sw, b⟩ := by
  unfold countS
  rw [hC, hl, hs]
theorem cnt_out (s b : Int) (v : Value) (w : World) (h : s < 0) : Calls Try.prog 130 #[.int .i64 s, .int .i64 b, v] w fun e w' => e = .returned (.tuple #[]) ∧ w = w' := by
  have h1 : decide (s < 0) = true := decide_eq_true h
  go_enter Try.func130, Try.ntmps130
  go_wp2
  refine bodyPost_ret (results_none rfl _ _ _) rfl ?_
  exact ⟨rfl, rfl⟩
set_option maxHeartbeats 4000000 in
set_option maxRecDepth 100000 in
theorem cnt_calls (s b : Int) (bo : Bool) (g gr n c : Nat) (v2 : Value) (l : List S50) (w : World) (base : Nat) (ok : Nat → Prop) (h0 : 0 ≤ s) (h1 : s < n)
    (hb : w.heap[g]? = some (.cells #[.bool bo, .slice (some ⟨gr, 0, none⟩) n c, v2] 46 (0, 0))) (HO : Kd.R k50 50 w base ok (.slice (some ⟨gr, 0, none⟩) n c) l) :
    Calls Try.prog 130 #[.int .i64 s, .int .i64 b, .pointer (some ⟨g, 0, none⟩)] w fun e w' => e = .returned (.tuple #[]) ∧ Kd.R k50 50 w' base ok (.slice (some ⟨gr, 0, none⟩) n c) (l.set s.toNat (countS (rd_T50 l s) b)) ∧ w.grownBy w' (some gr) := by
  obtain ⟨x0, x1, x2, x3, x4, f0, f1, f2, f3, f4⟩ := sec_at HO s h0 h1
  have hc1 : w.cell? ⟨g, 1, none⟩ = some (.slice (some ⟨gr, 0, none⟩) n c) := (blk_cell hb 1).trans rfl
  have hs : decide (s < 0) = false := decide_eq_false (by omega)
  have H0 := Aside0.mk h0
  have H1 := Aside0.mk h1
  have HO2 := Aside0.mk HO
  have hp0 := eq_true h0
  have hp1 := eq_true h1
  have ST := Aside0.mk (SecSt.start HO H0.out H1.out)
  generalize hx : rd_T50 l s = x at x0 x1 x2 x3 x4 ST ⊢
  have HX := hx
  clear hx hb h0 h1 HO HO2 HX
  by_cases q1 : -1000000 ≤ wrap64 (x.f1 + b)
  · skip
    have f1 : decide (wrap64 (x.f1 + b) ≥ -1000000) = true := decide_eq_true q1
    have Q1 := Aside0.mk q1
    clear q1
    by_cases q2 : wrap64 (x.f1 + b) ≤ 1000000
    · skip
      have f2 : decide (wrap64 (x.f1 + b) ≤ 1000000) = true := decide_eq_true q2
      have Q2 := Aside0.mk q2
      clear q2
      by_cases q3 : wrap64 (x.f1 + b) < 0
      · skip
        have f3 : decide (wrap64 (x.f1 + b) < 0) = true := decide_eq_true q3
        have Q3 := Aside0.mk q3
        clear q3
        rcases Bool.eq_false_or_eq_true x.f3 with q4 | q4
        · skip
          by_cases q5 : wrap64 (x.f1 + b) = 0
          · skip
            have f5 : (wrap64 (x.f1 + b) == 0) = true := beq_iff_eq.mpr q5
            have Q5 := Aside0.mk q5
            clear q5
            exact absurd Q5.out (by have := Q3.out; omega)
          · skip
            have f5 : (wrap64 (x.f1 + b) == 0) = false := beq_eq_false_iff_ne.mpr q5
            have Q5 := Aside0.mk q5
            clear q5
            go_enter Try.func130, Try.ntmps130
            go_wp2
            go_end0
            exact ⟨rfl, SecSt.eq (((ST.out.put1 H0.out H1.out rfl).put4 H0.out H1.out rfl).put2 H0.out H1.out rfl) (countS_eq (cnt_in (by have := Q1.out; omega) (by have := Q2.out; omega)) (by rw [decide_eq_true (by have := Q3.out; omega)]; simp) (by rw [decide_eq_false (by have := Q5.out; omega)]; simp))⟩
        · have Q4 := Aside0.mk q4
          go_enter Try.func130, Try.ntmps130
          go_wp2
          go_end0
          exact ⟨rfl, SecSt.eq (((ST.out.put1 H0.out H1.out rfl).put4 H0.out H1.out rfl).put2 H0.out H1.out rfl) (countS_eq (cnt_in (by have := Q1.out; omega) (by have := Q2.out; omega)) (by rw [decide_eq_true (by have := Q3.out; omega)]; simp) (by rw [Q4.out]; rfl))⟩
      · skip
        have f3 : decide (wrap64 (x.f1 + b) < 0) = false := decide_eq_false q3
        have Q3 := Aside0.mk q3
        clear q3
        rcases Bool.eq_false_or_eq_true x.f3 with q4 | q4
        · skip
          by_cases q5 : wrap64 (x.f1 + b) = 0
          · skip
            have f5 : (wrap64 (x.f1 + b) == 0) = true := beq_iff_eq.mpr q5
            have Q5 := Aside0.mk q5
            clear q5
            by_cases q6 : b = -1
            · skip
              have f6 : (b == -1) = true := beq_iff_eq.mpr q6
              have Q6 := Aside0.mk q6
              clear q6
              go_enter Try.func130, Try.ntmps130
              go_wp2
              go_end0
              exact ⟨rfl, SecSt.eq (((ST.out.put1 H0.out H1.out rfl).put4 H0.out H1.out rfl).put3 H0.out H1.out rfl) (countS_eq (cnt_in (by have := Q1.out; omega) (by have := Q2.out; omega)) (by rw [decide_eq_false (by have := Q3.out; omega)]; simp) (by rw [decide_eq_true (by have := Q5.out; omega), decide_eq_true (by have := Q6.out; omega)]; simp))⟩
            · skip
              have f6 : (b == -1) = false := beq_eq_false_iff_ne.mpr q6
              have Q6 := Aside0.mk q6
              clear q6
              go_enter Try.func130, Try.ntmps130
              go_wp2
              go_end0
              exact ⟨rfl, SecSt.eq ((ST.out.put1 H0.out H1.out rfl).put4 H0.out H1.out rfl) (countS_eq (cnt_in (by have := Q1.out; omega) (by have := Q2.out; omega)) (by rw [decide_eq_false (by have := Q3.out; omega)]; simp) (by rw [decide_eq_false (show ¬ b = -1 from Q6.out)]; simp))⟩
          · skip
            have f5 : (wrap64 (x.f1 + b) == 0) = false := beq_eq_false_iff_ne.mpr q5
            have Q5 := Aside0.mk q5
            clear q5
            go_enter Try.func130, Try.ntmps130
            go_wp2
            go_end0
            exact ⟨rfl, SecSt.eq ((ST.out.put1 H0.out H1.out rfl).put4 H0.out H1.out rfl) (countS_eq (cnt_in (by have := Q1.out; omega) (by have := Q2.out; omega)) (by rw [decide_eq_false (by have := Q3.out; omega)]; simp) (by rw [decide_eq_false (by have := Q5.out; omega)]; simp))⟩
        · have Q4 := Aside0.mk q4
          go_enter Try.func130, Try.ntmps130
          go_wp2
          go_end0
          exact ⟨rfl, SecSt.eq ((ST.out.put1 H0.out H1.out rfl).put4 H0.out H1.out rfl) (countS_eq (cnt_in (by have := Q1.out; omega) (by have := Q2.out; omega)) (by rw [decide_eq_false (by have := Q3.out; omega)]; simp) (by rw [Q4.out]; rfl))⟩
    · skip
      have f2 : decide (wrap64 (x.f1 + b) ≤ 1000000) = false := decide_eq_false q2
      have Q2 := Aside0.mk q2
      clear q2
      by_cases q3 : x.f1 < 0
      · skip
        have f3 : decide (x.f1 < 0) = true := decide_eq_true q3
        have Q3 := Aside0.mk q3
        clear q3
        rcases Bool.eq_false_or_eq_true x.f3 with q4 | q4
        · skip
          by_cases q5 : x.f1 = 0
          · skip
            have f5 : (x.f1 == 0) = true := beq_iff_eq.mpr q5
            have Q5 := Aside0.mk q5
            clear q5
            exact absurd Q5.out (by have := Q3.out; omega)
          · skip
            have f5 : (x.f1 == 0) = false := beq_eq_false_iff_ne.mpr q5
            have Q5 := Aside0.mk q5
            clear q5
            go_enter Try.func130, Try.ntmps130
            go_wp2
            go_end0
            exact ⟨rfl, SecSt.eq ((ST.out.put4 H0.out H1.out rfl).put2 H0.out H1.out rfl) (countS_eq (cnt_hi (by have := Q2.out; omega)) (by rw [decide_eq_true (by have := Q3.out; omega)]; simp) (by rw [decide_eq_false (by have := Q5.out; omega)]; simp))⟩
        · have Q4 := Aside0.mk q4
          go_enter Try.func130, Try.ntmps130
          go_wp2
          go_end0
          exact ⟨rfl, SecSt.eq ((ST.out.put4 H0.out H1.out rfl).put2 H0.out H1.out rfl) (countS_eq (cnt_hi (by have := Q2.out; omega)) (by rw [decide_eq_true (by have := Q3.out; omega)]; simp) (by rw [Q4.out]; rfl))⟩
      · skip
        have f3 : decide (x.f1 < 0) = false := decide_eq_false q3
        have Q3 := Aside0.mk q3
        clear q3
        rcases Bool.eq_false_or_eq_true x.f3 with q4 | q4
        · skip
          by_cases q5 : x.f1 = 0
          · skip
            have f5 : (x.f1 == 0) = true := beq_iff_eq.mpr q5
            have Q5 := Aside0.mk q5
            clear q5
            by_cases q6 : b = -1
            · skip
              have f6 : (b == -1) = true := beq_iff_eq.mpr q6
              have Q6 := Aside0.mk q6
              clear q6
              go_enter Try.func130, Try.ntmps130
              go_wp2
              go_end0
              exact ⟨rfl, SecSt.eq ((ST.out.put4 H0.out H1.out rfl).put3 H0.out H1.out rfl) (countS_eq (cnt_hi (by have := Q2.out; omega)) (by rw [decide_eq_false (by have := Q3.out; omega)]; simp) (by rw [decide_eq_true (by have := Q5.out; omega), decide_eq_true (by have := Q6.out; omega)]; simp))⟩
            · skip
              have f6 : (b == -1) = false := beq_eq_false_iff_ne.mpr q6
              have Q6 := Aside0.mk q6
              clear q6
              go_enter Try.func130, Try.ntmps130
              go_wp2
              go_end0
              exact ⟨rfl, SecSt.eq (ST.out.put4 H0.out H1.out rfl) (countS_eq (cnt_hi (by have := Q2.out; omega)) (by rw [decide_eq_false (by have := Q3.out; omega)]; simp) (by rw [decide_eq_false (show ¬ b = -1 from Q6.out)]; simp))⟩
          · skip
            have f5 : (x.f1 == 0) = false := beq_eq_false_iff_ne.mpr q5
            have Q5 := Aside0.mk q5
            clear q5
            go_enter Try.func130, Try.ntmps130
            go_wp2
            go_end0
            exact ⟨rfl, SecSt.eq (ST.out.put4 H0.out H1.out rfl) (countS_eq (cnt_hi (by have := Q2.out; omega)) (by rw [decide_eq_false (by have := Q3.out; omega)]; simp) (by rw [decide_eq_false (by have := Q5.out; omega)]; simp))⟩
        · have Q4 := Aside0.mk q4
          go_enter Try.func130, Try.ntmps130
          go_wp2
          go_end0
          exact ⟨rfl, SecSt.eq (ST.out.put4 H0.out H1.out rfl) (countS_eq (cnt_hi (by have := Q2.out; omega)) (by rw [decide_eq_false (by have := Q3.out; omega)]; simp) (by rw [Q4.out]; rfl))⟩
  · skip
    have f1 : decide (wrap64 (x.f1 + b) ≥ -1000000) = false := decide_eq_false q1
    have Q1 := Aside0.mk q1
    clear q1
    by_cases q3 : x.f1 < 0
    · skip
      have f3 : decide (x.f1 < 0) = true := decide_eq_true q3
      have Q3 := Aside0.mk q3
      clear q3
      rcases Bool.eq_false_or_eq_true x.f3 with q4 | q4
      · skip
        by_cases q5 : x.f1 = 0
        · skip
          have f5 : (x.f1 == 0) = true := beq_iff_eq.mpr q5
          have Q5 := Aside0.mk q5
          clear q5
          exact absurd Q5.out (by have := Q3.out; omega)
        · skip
          have f5 : (x.f1 == 0) = false := beq_eq_false_iff_ne.mpr q5
          have Q5 := Aside0.mk q5
          clear q5
          go_enter Try.func130, Try.ntmps130
          go_wp2
          go_end0
          exact ⟨rfl, SecSt.eq ((ST.out.put4 H0.out H1.out rfl).put2 H0.out H1.out rfl) (countS_eq (cnt_lo (by have := Q1.out; omega)) (by rw [decide_eq_true (by have := Q3.out; omega)]; simp) (by rw [decide_eq_false (by have := Q5.out; omega)]; simp))⟩
      · have Q4 := Aside0.mk q4
        go_enter Try.func130, Try.ntmps130
        go_wp2
        go_end0
        exact ⟨rfl, SecSt.eq ((ST.out.put4 H0.out H1.out rfl).put2 H0.out H1.out rfl) (countS_eq (cnt_lo (by have := Q1.out; omega)) (by rw [decide_eq_true (by have := Q3.out; omega)]; simp) (by rw [Q4.out]; rfl))⟩
    · skip
      have f3 : decide (x.f1 < 0) = false := decide_eq_false q3
      have Q3 := Aside0.mk q3
      clear q3
      rcases Bool.eq_false_or_eq_true x.f3 with q4 | q4
      · skip
        by_cases q5 : x.f1 = 0
        · skip
          have f5 : (x.f1 == 0) = true := beq_iff_eq.mpr q5
          have Q5 := Aside0.mk q5
          clear q5
          by_cases q6 : b = -1
          · skip
            have f6 : (b == -1) = true := beq_iff_eq.mpr q6
            have Q6 := Aside0.mk q6
            clear q6
            go_enter Try.func130, Try.ntmps130
            go_wp2
            go_end0
            exact ⟨rfl, SecSt.eq ((ST.out.put4 H0.out H1.out rfl).put3 H0.out H1.out rfl) (countS_eq (cnt_lo (by have := Q1.out; omega)) (by rw [decide_eq_false (by have := Q3.out; omega)]; simp) (by rw [decide_eq_true (by have := Q5.out; omega), decide_eq_true (by have := Q6.out; omega)]; simp))⟩
          · skip
            have f6 : (b == -1) = false := beq_eq_false_iff_ne.mpr q6
            have Q6 := Aside0.mk q6
            clear q6
            go_enter Try.func130, Try.ntmps130
            go_wp2
            go_end0
            exact ⟨rfl, SecSt.eq (ST.out.put4 H0.out H1.out rfl) (countS_eq (cnt_lo (by have := Q1.out; omega)) (by rw [decide_eq_false (by have := Q3.out; omega)]; simp) (by rw [decide_eq_false (show ¬ b = -1 from Q6.out)]; simp))⟩
        · skip
          have f5 : (x.f1 == 0) = false := beq_eq_false_iff_ne.mpr q5
          have Q5 := Aside0.mk q5
          clear q5
          go_enter Try.func130, Try.ntmps130
          go_wp2
          go_end0
          exact ⟨rfl, SecSt.eq (ST.out.put4 H0.out H1.out rfl) (countS_eq (cnt_lo (by have := Q1.out; omega)) (by rw [decide_eq_false (by have := Q3.out; omega)]; simp) (by rw [decide_eq_false (by have := Q5.out; omega)]; simp))⟩
      · have Q4 := Aside0.mk q4
        go_enter Try.func130, Try.ntmps130
        go_wp2
        go_end0
        exact ⟨rfl, SecSt.eq (ST.out.put4 H0.out H1.out rfl) (countS_eq (cnt_lo (by have := Q1.out; omega)) (by rw [decide_eq_false (by have := Q3.out; omega)]; simp) (by rw [Q4.out]; rfl))⟩
end Go.Proofs.Ytpdnabhpkdchjaa.P
namespace Go.Proofs.Ytpdnabhpkdchjaa.P
open Go.RowKit Go.Proofs.YtpdnabhpkdchjaaW.PrintWords Go.Proofs.YtpdnabhpkdchjaaW.PrintLast Go.Proofs.YtpdnabhpkdchjaaW.PrintMore
set_option linter.unusedVariables false
set_option linter.unusedSimpArgs false
def loseS (x : S50) : S50 := ⟨x.f0, x.f1, true, x.f3, x.f4⟩
theorem lose_none (s : Int) (v : Value) (w : World) (h : s < 0) : Calls Try.prog 131 #[.int .i64 s, v] w fun e w' => e = .returned (.tuple #[]) ∧ w = w' := by
  have h1 : decide (s ≥ 0) = false := decide_eq_false (by omega)
  go_enter Try.func131, Try.ntmps131
  go_wp2
  go_end0
  exact ⟨rfl, rfl⟩
set_option maxHeartbeats 4000000 in
set_option maxRecDepth 100000 in
theorem lose_calls (s : Int) (bo : Bool) (g gr n c : Nat) (v2 : Value) (l : List S50) (w : World) (base : Nat) (ok : Nat → Prop) (h0 : 0 ≤ s) (h1 : s < n)
    (hb : w.heap[g]? = some (.cells #[.bool bo, .slice (some ⟨gr, 0, none⟩) n c, v2] 46 (0, 0))) (HO : Kd.R k50 50 w base ok (.slice (some ⟨gr, 0, none⟩) n c) l) :
    Calls Try.prog 131 #[.int .i64 s, .pointer (some ⟨g, 0, none⟩)] w fun e w' => e = .returned (.tuple #[]) ∧ Kd.R k50 50 w' base ok (.slice (some ⟨gr, 0, none⟩) n c) (l.set s.toNat (loseS (rd_T50 l s))) ∧ w.grownBy w' (some gr) := by
  obtain ⟨x0, x1, x2, x3, x4, f0, f1, f2, f3, f4⟩ := sec_at HO s h0 h1
  have hc1 : w.cell? ⟨g, 1, none⟩ = some (.slice (some ⟨gr, 0, none⟩) n c) := (blk_cell hb 1).trans rfl
  have hs : decide (s ≥ 0) = true := decide_eq_true (by omega)
  have H0 := Aside0.mk h0
  have H1 := Aside0.mk h1
  have hp0 := eq_true h0
  have hp1 := eq_true h1
  have ST := Aside0.mk (SecSt.start HO H0.out H1.out)
  generalize hx : rd_T50 l s = x at x0 x1 x2 x3 x4 ST ⊢
  clear hx hb h0 h1 HO
  go_enter Try.func131, Try.ntmps131
  go_wp2
  go_end0
  exact ⟨rfl, SecSt.eq (ST.out.put2 H0.out H1.out rfl) rfl⟩
end Go.Proofs.Ytpdnabhpkdchjaa.P
namespace Go.Proofs.Ytpdnabhpkdchjaa.P
open Go.RowKit Go.Proofs.YtpdnabhpkdchjaaW.PrintWords Go.Proofs.YtpdnabhpkdchjaaW.PrintLast Go.Proofs.YtpdnabhpkdchjaaW.PrintMore
attribute [local go_sem] max2_int min2_int max_two min_two max_three min_three max_four min_four
set_option linter.unusedVariables false
set_option linter.unusedSimpArgs false
mutual
def spec_Around.j0:Nat→Int→Bool→Int→List (S88)→Option (List Int)
 | 0,_,_,_,_=>none
 | k+1,x1,x18,x224000,x224001=>if x18=true then (some ([]:List Int)) else (spec_Around.l0 k x1 ([]:List Int) x224001 (x224001.length:Int) 0)
def spec_Around.l0:Nat→Int→List Int→List (S88)→Int→Int→Option (List Int)
 | 0,_,_,_,_,_=>none
 | k+1,x1,x5,x20,x21,x22=>if x22<x21 then (if 0≤x22 then (if x22<(x20.length:Int) then (if ((rd_T88 x20 x22).f0)=x1 then (if x5.length<17592186044416 then (spec_Around.l0 k x1 (x5 ++ [x22]) x20 x21 (wrap64 (x22+1))) else (none)) else (if ((rd_T88 x20 x22).f1)=x1 then (if x5.length<17592186044416 then (spec_Around.l0 k x1 (x5 ++ [x22]) x20 x21 (wrap64 (x22+1))) else (none)) else (spec_Around.l0 k x1 x5 x20 x21 (wrap64 (x22+1))))) else (none)) else (none)) else (some x5)
end
def spec_Around.f (k:Nat) (a0_0:Int) (l0_1:List (S88)) (a1:Int):Option (List Int):=(spec_LayoutOk.f k a0_0 l0_1).bind fun t224=>(if t224=0 then ((spec_l1in.f a1 0 (wrap64 (a0_0 - 1))).bind fun t225=>(spec_Around.j0 k a1 (!t225) a0_0 l0_1)) else (spec_Around.j0 k a1 true a0_0 l0_1))
set_option maxHeartbeats 8000000 in
set_option maxRecDepth 100000 in
theorem spec_Around.calls (k:Nat) (a0_0:Int) (A0_1:Option Addr) (c0_1:Nat) (l0_1:List (S88)) (a1:Int) (r:List Int) (w:World) (hr0_1:Kd.C k88 w A0_1 l0_1.length l0_1) (hc0_1:l0_1.length≤c0_1) (h:spec_Around.f k a0_0 l0_1 a1=some r) :
  Calls Try.prog 37 #[.agg #[.int .i64 a0_0,.slice A0_1 l0_1.length c0_1],.int .i64 a1] w fun e w'=>∃ v0_:Value,e=.returned (v0_)∧Kd.R (Kd.int .i64) 3 w' w.heap.size (fun _=>True) v0_ r∧Below w.heap.size w w':=by
 have hu30:=Try.underlying30
 have hu88:=Try.underlying88
 have HR0_1:=Aside0.mk hr0_1
 have HC0_1:=Aside0.mk hc0_1
 clear hr0_1 hc0_1
 have HB:=Aside0.mk (Below.refl w.heap.size w)
 have H:((spec_LayoutOk.f k a0_0 l0_1).bind fun t224=>(if t224=0 then ((spec_l1in.f a1 0 (wrap64 (a0_0 - 1))).bind fun t225=>(spec_Around.j0 k a1 (!t225) a0_0 l0_1)) else (spec_Around.j0 k a1 true a0_0 l0_1)))=some r:=h
 clear h
 have HC3:=Aside0.mk H
 clear H
 go_enter Try.func37,Try.ntmps37
 go_upto_region 1 with (first|((with_reducible refine gate_dst (N:=2) rfl ?_);refine box_event ?hg (N:=2) ?hd (cs:=#[.int .i64 a0_0,.slice A0_1 l0_1.length c0_1]) (t:=30) ?hr ?_;(case hd=>rfl);(case hg=>rfl);(case hr=>first|(go_simp;done)|(go_simp;rfl));intro gb223 hg w4 hbox hb;have n0_:=Aside0.mk (below_step (by exact HB.out) hb);have n1_:=Aside0.mk (hbox);have n2_:=Aside0.mk ((by rw [hg];exact (below_size (by exact HB.out)):w.heap.size≤gb223));have n3_:=Aside0.mk ((by rw [hg];exact (below_size (by exact HB.out)):w.heap.size≤gb223));clear HB;have HB:=n0_;have BK223:=n1_;have GW223:=n2_;have GE223:=n3_;clear n0_ n1_ n2_ n3_;clear hb hbox hg))
 (try simp only [Act.put,List.setIfInBounds_toArray,List.set_cons_zero,List.set_cons_succ])
 go_cut [18] (fun v18 wc=>∃ (kq:Nat) (x18_2:Bool),v18=.bool x18_2∧Aside0 (spec_Around.j0 kq a1 x18_2 a0_0 l0_1=some r)∧Aside0 (kq≤k)∧Aside0 (wc.heap[gb223]?=some (.cells #[.int .i64 a0_0,(.slice A0_1 l0_1.length c0_1)] 30 (0,0)))∧Aside0 (Below w.heap.size w wc))
 case first =>
  have H:=HC3.out
  clear HC3
  replace H:=Option.bind_eq_some_iff.mp H
  obtain ⟨t224,A50,H⟩:=H
  replace H:(if t224=0 then ((spec_l1in.f a1 0 (wrap64 (a0_0 - 1))).bind fun t225=>(spec_Around.j0 k a1 (!t225) a0_0 l0_1)) else (spec_Around.j0 k a1 true a0_0 l0_1))=some r:=H
  have A5:=Aside0.mk A50
  clear A50
  by_cases c6:t224=0
  ·rw [if_pos c6] at H
   have c6b0:(t224==0)=true:=beq_iff_eq.mpr c6
   have c6b1:(t224 != 0)=false:=bne_eq_false_iff_eq.mpr c6
   clear c6
   (first|rw [c6b0]|(simp only [i64_w,i32_w];rw [c6b0])|skip)
   replace H:=Option.bind_eq_some_iff.mp H
   obtain ⟨t225,A70,H⟩:=H
   replace H:(spec_Around.j0 k a1 (!t225) a0_0 l0_1)=some r:=H
   have A7:=Aside0.mk A70
   clear A70
   have H':=Aside0.mk H
   clear H
   have hcz8_0:w4.cell? ⟨gb223,0,none⟩=some (.int .i64 a0_0):=(blk_cell BK223.out 0).trans rfl
   have hcz8_1:w4.cell? ⟨gb223,1,none⟩=some (.slice A0_1 l0_1.length c0_1):=(blk_cell BK223.out 1).trans rfl
   have hfz8_0:=blk_frozen BK223.out 0
   have hfz8_1:=blk_frozen BK223.out 1
   go_wp2_with (first|((with_reducible refine gate_callee (f:=23) rfl ?_);refine goesL_ (some 9) rfl rfl Try.func23 (by kernel_rfl) rfl #[.agg #[.int .i64 a0_0,.slice A0_1 l0_1.length c0_1]] rfl (by (try simp only [List.map_toArray,List.map_cons,List.map_nil]);first|done|rfl|(simp only [List.length_drop,List.length_take];rfl)) ?_;(with_reducible refine (spec_LayoutOk.calls k a0_0 _ _ l0_1 t224 _ ?side1 ?side2 A5.out).mono ?_);(case side1=>repeat (first|exact (Kd.C_below HR0_1.out HB.out)|(with_reducible refine Kd.C_alloc ?_ _)|(with_reducible refine Kd.C_drewN ?_ _)|(with_reducible refine Kd.C_drew ?_)));(case side2=>exact HC0_1.out);rintro e w9 ⟨rfl,hb⟩;refine ⟨_,rfl,?_⟩;have n0_:=Aside0.mk (blk_below (g:=gb223) (o:=.cells #[.int .i64 a0_0,.slice A0_1 l0_1.length c0_1] 30 (0,0)) (by exact BK223.out) hb);have n1_:=Aside0.mk (below_step (by exact HB.out) hb);clear BK223;clear HB;have BK223:=n0_;have HB:=n1_;clear n0_ n1_;(try clear hb);(try clear hb2);(try clear hk);(try clear hi);have hcz10_0:w9.cell? ⟨gb223,0,none⟩=some (.int .i64 a0_0):=(blk_cell BK223.out 0).trans rfl;have hcz10_1:w9.cell? ⟨gb223,1,none⟩=some (.slice A0_1 l0_1.length c0_1):=(blk_cell BK223.out 1).trans rfl;have hfz10_0:=blk_frozen BK223.out 0;have hfz10_1:=blk_frozen BK223.out 1)|(go_at_call 87;(with_reducible refine (spec_l1in.calls a1 0 (wrap64 (a0_0 - 1)) t225 _ A7.out).mono ?_);rintro e w' ⟨rfl,⟨nd,rfl⟩⟩))
   go_meet
   case rel=>exact ⟨_,(!t225),(by first|rfl|(simp;done)|(simp [*];done)),H',⟨by first|omega|exact Nat.le_refl _⟩,⟨by exact BK223.out⟩,⟨by repeat (first|(with_reducible first|exact HB.out|apply below_alloc|apply pw_below_drewN|apply below_drew1|refine below_set ?_ GE223.out)|exact HB.out)⟩⟩
  rw [if_neg c6] at H
  have c6b0:(t224==0)=false:=beq_eq_false_iff_ne.mpr c6
  have c6b1:(t224 != 0)=true:=bne_iff_ne.mpr c6
  (first|rw [c6b0]|(simp only [i64_w,i32_w];rw [c6b0])|skip)
  have H':=Aside0.mk H
  clear H
  have hcz11_0:w4.cell? ⟨gb223,0,none⟩=some (.int .i64 a0_0):=(blk_cell BK223.out 0).trans rfl
  have hcz11_1:w4.cell? ⟨gb223,1,none⟩=some (.slice A0_1 l0_1.length c0_1):=(blk_cell BK223.out 1).trans rfl
  have hfz11_0:=blk_frozen BK223.out 0
  have hfz11_1:=blk_frozen BK223.out 1
  go_wp2_with (first|((with_reducible refine gate_callee (f:=23) rfl ?_);refine goesL_ (some 9) rfl rfl Try.func23 (by kernel_rfl) rfl #[.agg #[.int .i64 a0_0,.slice A0_1 l0_1.length c0_1]] rfl (by (try simp only [List.map_toArray,List.map_cons,List.map_nil]);first|done|rfl|(simp only [List.length_drop,List.length_take];rfl)) ?_;(with_reducible refine (spec_LayoutOk.calls k a0_0 _ _ l0_1 t224 _ ?side1 ?side2 A5.out).mono ?_);(case side1=>repeat (first|exact (Kd.C_below HR0_1.out HB.out)|(with_reducible refine Kd.C_alloc ?_ _)|(with_reducible refine Kd.C_drewN ?_ _)|(with_reducible refine Kd.C_drew ?_)));(case side2=>exact HC0_1.out);rintro e w12 ⟨rfl,hb⟩;refine ⟨_,rfl,?_⟩;have n0_:=Aside0.mk (blk_below (g:=gb223) (o:=.cells #[.int .i64 a0_0,.slice A0_1 l0_1.length c0_1] 30 (0,0)) (by exact BK223.out) hb);have n1_:=Aside0.mk (below_step (by exact HB.out) hb);clear BK223;clear HB;have BK223:=n0_;have HB:=n1_;clear n0_ n1_;(try clear hb);(try clear hb2);(try clear hk);(try clear hi)))
  go_meet
  case rel=>exact ⟨_,(true),(by first|rfl|(simp;done)|(simp [*];done)),H',⟨by first|omega|exact Nat.le_refl _⟩,⟨by exact BK223.out⟩,⟨by exact HB.out⟩⟩
 case rest =>
  clear HC3
  try clear c2
  try clear p2
  try clear c3
  try clear c6
  try clear c6b0
  try clear c6b1
  try clear p6
  try clear hcz10_0
  try clear hcz10_1
  try clear hcz11_0
  try clear hcz11_1
  try clear hcz8_0
  try clear hcz8_1
  try clear hfz10_0
  try clear hfz10_1
  try clear hfz11_0
  try clear hfz11_1
  try clear hfz8_0
  try clear hfz8_1
  obtain ⟨kq,x18_2,rfl,HA,HJ2,BK223,HB⟩:=hcut
  cases kq with
  | zero=>exact absurd HA.out (by simp [spec_Around.j0])
  | succ kj2 =>
   have H:=HA.out
   clear HA
   simp only [spec_Around.j0] at H
   by_cases c13:x18_2=true
   ·subst c13
    have H1:(some ([]:List Int))=some r:=by rw [if_pos rfl] at H;exact H
    clear H
    have H:=H1
    clear H1
    obtain rfl:=Option.some.inj H
    go_wp2
    go_ret
    exact ⟨_,by first|rfl|(simp [errW_none,errW_some] <;> rfl)|(simp [*,errW_none,errW_some] <;> rfl),by first|exact Kd.R_nil _ _ _ _ _|exact Kd.N_nil _ _ _ _ _|exact Kd.V_nil _ _ _ _ _|exact Kd.Q_nil _ _ _ _ _|exact Kd.S_nil _ _ _ _ _,by exact HB.out⟩
   replace c13:=Bool.eq_false_iff.mpr c13
   subst c13
   have H1:(spec_Around.l0 kj2 a1 ([]:List Int) l0_1 (l0_1.length:Int) 0)=some r:=by rw [if_neg (show ¬ (false=true) by decide)] at H;exact H
   clear H
   have H:=H1
   clear H1
   have H':=Aside0.mk H
   clear H
   have hcz14_0:wc.cell? ⟨gb223,0,none⟩=some (.int .i64 a0_0):=(blk_cell BK223.out 0).trans rfl
   have hcz14_1:wc.cell? ⟨gb223,1,none⟩=some (.slice A0_1 l0_1.length c0_1):=(blk_cell BK223.out 1).trans rfl
   have hfz14_0:=blk_frozen BK223.out 0
   have hfz14_1:=blk_frozen BK223.out 1
   go_wp2
   go_loopg [5,22] kj2 (fun kq v5 v22 w'=>∃ (x5_2:List Int) (x22_2:Int),v22=.int .i64 x22_2∧Aside0 (spec_Around.l0 kq a1 x5_2 l0_1 (l0_1.length:Int) x22_2=some r)∧Aside0 (kq≤kj2)∧Aside0 (Kd.R (Kd.int .i64) 3 w' w.heap.size (fun _=>True) v5 x5_2)∧Aside0 (w'.heap[gb223]?=some (.cells #[.int .i64 a0_0,(.slice A0_1 l0_1.length c0_1)] 30 (0,0)))∧Aside0 (Below w.heap.size w w'))
   case atStart=>exact ⟨(([]:List Int)),(0),(by first|rfl|(simp;done)|(simp [*];done)),H',⟨Nat.le_refl _⟩,⟨by first|exact Kd.R_nil _ _ _ _ _|exact Kd.N_nil _ _ _ _ _|exact Kd.V_nil _ _ _ _ _|exact Kd.Q_nil _ _ _ _ _|exact Kd.S_nil _ _ _ _ _⟩,⟨by exact BK223.out⟩,⟨by exact HB.out⟩⟩
   case round =>
    clear H'
    try clear c1
    try clear c2
    try clear p2
    try clear c3
    try clear c6
    try clear c6b0
    try clear c6b1
    try clear p6
    try clear c13
    try clear hcz10_0
    try clear hcz10_1
    try clear hcz11_0
    try clear hcz11_1
    try clear hcz14_0
    try clear hcz14_1
    try clear hcz8_0
    try clear hcz8_1
    try clear hfz10_0
    try clear hfz10_1
    try clear hfz11_0
    try clear hfz11_1
    try clear hfz14_0
    try clear hfz14_1
    try clear hfz8_0
    try clear hfz8_1
    try clear p2
    try clear p6
    obtain ⟨x5_2,x22_2,rfl,HA,HK2,HO_5,BK223,HB⟩:=hrel
    cases gk with
    | zero=>exact absurd HA.out (by simp [spec_Around.l0])
    | succ k2 =>
     have H:=HA.out
     clear HA
     simp only [spec_Around.l0] at H
     by_cases c15:x22_2<(l0_1.length:Int)
     ·rw [if_pos c15] at H
      have c15b0:decide (x22_2<(l0_1.length:Int))=true:=decide_eq_true c15
      clear c15
      by_cases c16:0≤x22_2
      ·rw [if_pos c16] at H
       have c16b0:decide (0≤x22_2)=true:=decide_eq_true c16
       clear c16
       by_cases c17:x22_2<(l0_1.length:Int)
       ·rw [if_pos c17] at H
        have c17b0:decide (x22_2<(l0_1.length:Int))=true:=decide_eq_true c17
        clear c17
        by_cases c18:((rd_T88 l0_1 x22_2).f0)=a1
        ·rw [if_pos c18] at H
         have c18b0:(((rd_T88 l0_1 x22_2).f0)==a1)=true:=beq_iff_eq.mpr c18
         have c18b1:(((rd_T88 l0_1 x22_2).f0) != a1)=false:=bne_eq_false_iff_eq.mpr c18
         clear c18
         by_cases c19:x5_2.length<17592186044416
         ·rw [if_pos c19] at H
          have LMc19:=Aside0.mk c19
          clear c19
          obtain ⟨y228,hy228⟩:∃ y_:List Int,y_=(x5_2 ++ [x22_2]):=⟨_,rfl⟩
          replace H:(spec_Around.l0 k2 a1 y228 l0_1 (l0_1.length:Int) (wrap64 (x22_2+1)))=some r:=by first|(rw [hy228];with_reducible exact H)|(have H2_:=(Option.bind_some _ _).symm.trans H;rw [hy228];with_reducible exact H2_)|(have H2_:=(Option.bind_some _ _).symm.trans H;with_reducible exact H2_)|with_reducible exact H|(rw [hy228];exact H)|exact H
          have Ny228:=Aside0.mk hy228
          clear hy228
          have H':=Aside0.mk H
          clear H
          have p226:0≤(x22_2:Int):=of_decide_eq_true (by first|(with_reducible assumption)|assumption)
          have q226:x22_2<(l0_1.length:Int):=of_decide_eq_true (by first|(with_reducible assumption)|assumption)
          obtain ⟨ad226,e226,hx226_0,hx226_1⟩:=at_T88 HR0_1.out x22_2 p226 q226
          cases e226
          replace hx226_0:=(HB.out.cell (World.block_lt_of_cell? w _ hx226_0)).trans hx226_0
          replace hx226_1:=(HB.out.cell (World.block_lt_of_cell? w _ hx226_1)).trans hx226_1
          replace p226:=eq_true p226
          replace q226:=eq_true q226
          go_wp2_with (first|((with_reducible refine gate_dst (N:=7) rfl ?_);refine box_event ?hg (N:=7) ?hd (cs:=#[.int .i64 0,.int .i64 0]) (t:=88) ?hr ?_;(case hd=>rfl);(case hg=>rfl);(case hr=>first|(go_simp;done)|(go_simp;rfl));intro gb227 hg w20 hbox hb;have n0_:=Aside0.mk (Kd.R_below (by exact HO_5.out) hb);have n1_:=Aside0.mk (blk_below (g:=gb223) (o:=.cells #[.int .i64 a0_0,.slice (some ad226) l0_1.length c0_1] 30 (0,0)) (by exact BK223.out) hb);have n2_:=Aside0.mk (below_step (by exact HB.out) hb);have n3_:=Aside0.mk (hbox);have n4_:=Aside0.mk ((by rw [hg];exact (below_size (by exact HB.out)):w.heap.size≤gb227));have n5_:=Aside0.mk ((by rw [hg];exact (below_size (by repeat (first|(with_reducible first|exact HB.out|apply below_alloc|apply pw_below_drewN|apply below_drew1|refine below_set ?_ GE223.out)|exact HB.out))):w.heap.size≤gb227));have n6_:=Aside0.mk ((by rw [hg];exact Nat.ne_of_lt (blk_lt (g:=gb223) (o:=.cells #[.int .i64 a0_0,.slice (some ad226) l0_1.length c0_1] 30 (0,0)) (by (with_reducible repeat (first|refine blk_drewN ?_ _|refine blk_drew ?_|refine blk_alloc ?_ _));exact BK223.out)):gb223 ≠ gb227));have n7_:=Aside0.mk ((by rw [hg];exact Nat.ne_of_gt (blk_lt (g:=gb223) (o:=.cells #[.int .i64 a0_0,.slice (some ad226) l0_1.length c0_1] 30 (0,0)) (by (with_reducible repeat (first|refine blk_drewN ?_ _|refine blk_drew ?_|refine blk_alloc ?_ _));exact BK223.out)):gb227 ≠ gb223));clear HO_5;clear BK223;clear HB;have HO_5:=n0_;have BK223:=n1_;have HB:=n2_;have BK227:=n3_;have GW227:=n4_;have GE227:=n5_;have NB223_227:=n6_;have NB227_223:=n7_;clear n0_ n1_ n2_ n3_ n4_ n5_ n6_ n7_;clear hb hbox hg;have hnb21:=NB227_223.out;have hnc21:=NB223_227.out;have hcz22_0:w20.cell? ⟨gb227,0,none⟩=some (.int .i64 0):=(blk_cell BK227.out 0).trans rfl;have hcz22_1:w20.cell? ⟨gb227,1,none⟩=some (.int .i64 0):=(blk_cell BK227.out 1).trans rfl;have hfz22_0:=blk_frozen BK227.out 0;have hfz22_1:=blk_frozen BK227.out 1)|((with_reducible refine gate_builtin (b:=.append) (xs:=#[.tmp 37,.tmp 39]) rfl ?_);at_builtin;refine Kd.R_append (Kd.int .i64) (w0:=w) w.heap.size rfl (.tmp 37) (.tmp 39) 59 3 (.int .i64 0) 8 rfl Try.underlying59 info3 rfl (by decide) (by omega) u5 x5_2 x22_2 [.int .i64 x22_2] (fun _=>True) (fun _=>False) rfl (by first|(go_simp;done)|(go_simp;rfl)) ?aP (fun _ hk=>hk.elim) ?aF ?aO ?aB ?aS ?aL ?_;(case aP=>exact rfl);(case aB=>exact (by repeat (first|(with_reducible first|exact HB.out|apply below_alloc|apply pw_below_drewN|apply below_drew1|refine below_set ?_ GE223.out|refine below_set ?_ GE227.out)|exact HB.out)));(case aF=>exact (fun _ _=>trivial));(case aO=>exact (by (with_reducible repeat (first|apply Kd.R_alloc|apply Kd.R_drewN|apply Kd.R_drew));exact Kd.R_mono (Kd.R_far (p:=⟨gb227,1,none⟩) (Kd.R_far (p:=⟨gb227,0,none⟩) (Kd.R_types HO_5.out BK227.out (by decide)) (fun _ hk=>hk.2) (.int .i64 ((rd_T88 l0_1 x22_2).f0))) (fun _ hk=>hk.2) (.int .i64 ((rd_T88 l0_1 x22_2).f1))) (fun _ hk=>trivial)));(case aS=>exact (below_size (by repeat (first|(with_reducible first|exact HB.out|apply below_alloc|apply pw_below_drewN|apply below_drew1|refine below_set ?_ GE223.out|refine below_set ?_ GE227.out)|exact HB.out))));(case aL=>have:=LMc19.out;omega);intro v229 w23 ho hb hg hat;rw [← Ny228.out] at ho;have n0_:=Aside0.mk (blk_grown (g:=gb223) (o:=.cells #[.int .i64 a0_0,.slice (some ad226) l0_1.length c0_1] 30 (0,0)) (by (with_reducible repeat (first|refine blk_drewN ?_ _|refine blk_drew ?_|refine blk_alloc ?_ _));refine blk_far ?_ NB223_227.out _;(with_reducible repeat (first|refine blk_drewN ?_ _|refine blk_drew ?_|refine blk_alloc ?_ _));refine blk_far ?_ NB223_227.out _;(with_reducible repeat (first|refine blk_drewN ?_ _|refine blk_drew ?_|refine blk_alloc ?_ _));exact BK223.out) hg (Kd.R_ne HO_5.out BK223.out (by decide)));have n1_:=Aside0.mk (blk_grown (g:=gb227) (o:=.cells #[.int .i64 ((rd_T88 l0_1 x22_2).f0),.int .i64 ((rd_T88 l0_1 x22_2).f1)] 88 (0,0)) (by (with_reducible repeat (first|refine blk_drewN ?_ _|refine blk_drew ?_|refine blk_alloc ?_ _));refine blk_put (cs:=#[.int .i64 ((rd_T88 l0_1 x22_2).f0),.int .i64 0]) ?_ 1 _ rfl;(with_reducible repeat (first|refine blk_drewN ?_ _|refine blk_drew ?_|refine blk_alloc ?_ _));refine blk_put (cs:=#[.int .i64 0,.int .i64 0]) ?_ 0 _ rfl;(with_reducible repeat (first|refine blk_drewN ?_ _|refine blk_drew ?_|refine blk_alloc ?_ _));exact BK227.out) hg (Kd.R_ne HO_5.out BK227.out (by decide)));have n2_:=Aside0.mk (hb);have n3_:=Aside0.mk (ho);clear BK223;clear BK227;clear HB;clear HO_5;have BK223:=n0_;have BK227:=n1_;have HB:=n2_;have HO230:=n3_;clear n0_ n1_ n2_ n3_;clear ho hb hg hat))
          go_roundg k2
          case measure=>have:=HJ2.out;have:=HK2.out;omega
          case rel=>exact ⟨(y228),(wrap64 (x22_2+1)),(by first|rfl|(simp;done)|(simp [*];done)),H',⟨by have:=HJ2.out;have:=HK2.out;omega⟩,⟨by exact HO230.out⟩,⟨by exact BK223.out⟩,⟨by exact HB.out⟩⟩
         rw [if_neg c19] at H
         exact absurd H (by simp)
        rw [if_neg c18] at H
        have c18b0:(((rd_T88 l0_1 x22_2).f0)==a1)=false:=beq_eq_false_iff_ne.mpr c18
        have c18b1:(((rd_T88 l0_1 x22_2).f0) != a1)=true:=bne_iff_ne.mpr c18
        by_cases c24:((rd_T88 l0_1 x22_2).f1)=a1
        ·rw [if_pos c24] at H
         have c24b0:(((rd_T88 l0_1 x22_2).f1)==a1)=true:=beq_iff_eq.mpr c24
         have c24b1:(((rd_T88 l0_1 x22_2).f1) != a1)=false:=bne_eq_false_iff_eq.mpr c24
         clear c24
         by_cases c25:x5_2.length<17592186044416
         ·rw [if_pos c25] at H
          have LMc25:=Aside0.mk c25
          clear c25
          obtain ⟨y231,hy231⟩:∃ y_:List Int,y_=(x5_2 ++ [x22_2]):=⟨_,rfl⟩
          replace H:(spec_Around.l0 k2 a1 y231 l0_1 (l0_1.length:Int) (wrap64 (x22_2+1)))=some r:=by first|(rw [hy231];with_reducible exact H)|(have H2_:=(Option.bind_some _ _).symm.trans H;rw [hy231];with_reducible exact H2_)|(have H2_:=(Option.bind_some _ _).symm.trans H;with_reducible exact H2_)|with_reducible exact H|(rw [hy231];exact H)|exact H
          have Ny231:=Aside0.mk hy231
          clear hy231
          have H':=Aside0.mk H
          clear H
          have p226:0≤(x22_2:Int):=of_decide_eq_true (by first|(with_reducible assumption)|assumption)
          have q226:x22_2<(l0_1.length:Int):=of_decide_eq_true (by first|(with_reducible assumption)|assumption)
          obtain ⟨ad226,e226,hx226_0,hx226_1⟩:=at_T88 HR0_1.out x22_2 p226 q226
          cases e226
          replace hx226_0:=(HB.out.cell (World.block_lt_of_cell? w _ hx226_0)).trans hx226_0
          replace hx226_1:=(HB.out.cell (World.block_lt_of_cell? w _ hx226_1)).trans hx226_1
          replace p226:=eq_true p226
          replace q226:=eq_true q226
          go_wp2_with (first|((with_reducible refine gate_dst (N:=7) rfl ?_);refine box_event ?hg (N:=7) ?hd (cs:=#[.int .i64 0,.int .i64 0]) (t:=88) ?hr ?_;(case hd=>rfl);(case hg=>rfl);(case hr=>first|(go_simp;done)|(go_simp;rfl));intro gb227 hg w26 hbox hb;have n0_:=Aside0.mk (Kd.R_below (by exact HO_5.out) hb);have n1_:=Aside0.mk (blk_below (g:=gb223) (o:=.cells #[.int .i64 a0_0,.slice (some ad226) l0_1.length c0_1] 30 (0,0)) (by exact BK223.out) hb);have n2_:=Aside0.mk (below_step (by exact HB.out) hb);have n3_:=Aside0.mk (hbox);have n4_:=Aside0.mk ((by rw [hg];exact (below_size (by exact HB.out)):w.heap.size≤gb227));have n5_:=Aside0.mk ((by rw [hg];exact (below_size (by repeat (first|(with_reducible first|exact HB.out|apply below_alloc|apply pw_below_drewN|apply below_drew1|refine below_set ?_ GE223.out)|exact HB.out))):w.heap.size≤gb227));have n6_:=Aside0.mk ((by rw [hg];exact Nat.ne_of_lt (blk_lt (g:=gb223) (o:=.cells #[.int .i64 a0_0,.slice (some ad226) l0_1.length c0_1] 30 (0,0)) (by (with_reducible repeat (first|refine blk_drewN ?_ _|refine blk_drew ?_|refine blk_alloc ?_ _));exact BK223.out)):gb223 ≠ gb227));have n7_:=Aside0.mk ((by rw [hg];exact Nat.ne_of_gt (blk_lt (g:=gb223) (o:=.cells #[.int .i64 a0_0,.slice (some ad226) l0_1.length c0_1] 30 (0,0)) (by (with_reducible repeat (first|refine blk_drewN ?_ _|refine blk_drew ?_|refine blk_alloc ?_ _));exact BK223.out)):gb227 ≠ gb223));clear HO_5;clear BK223;clear HB;have HO_5:=n0_;have BK223:=n1_;have HB:=n2_;have BK227:=n3_;have GW227:=n4_;have GE227:=n5_;have NB223_227:=n6_;have NB227_223:=n7_;clear n0_ n1_ n2_ n3_ n4_ n5_ n6_ n7_;clear hb hbox hg;have hnb27:=NB227_223.out;have hnc27:=NB223_227.out;have hcz28_0:w26.cell? ⟨gb227,0,none⟩=some (.int .i64 0):=(blk_cell BK227.out 0).trans rfl;have hcz28_1:w26.cell? ⟨gb227,1,none⟩=some (.int .i64 0):=(blk_cell BK227.out 1).trans rfl;have hfz28_0:=blk_frozen BK227.out 0;have hfz28_1:=blk_frozen BK227.out 1)|((with_reducible refine gate_builtin (b:=.append) (xs:=#[.tmp 37,.tmp 39]) rfl ?_);at_builtin;refine Kd.R_append (Kd.int .i64) (w0:=w) w.heap.size rfl (.tmp 37) (.tmp 39) 59 3 (.int .i64 0) 8 rfl Try.underlying59 info3 rfl (by decide) (by omega) u5 x5_2 x22_2 [.int .i64 x22_2] (fun _=>True) (fun _=>False) rfl (by first|(go_simp;done)|(go_simp;rfl)) ?aP (fun _ hk=>hk.elim) ?aF ?aO ?aB ?aS ?aL ?_;(case aP=>exact rfl);(case aB=>exact (by repeat (first|(with_reducible first|exact HB.out|apply below_alloc|apply pw_below_drewN|apply below_drew1|refine below_set ?_ GE223.out|refine below_set ?_ GE227.out)|exact HB.out)));(case aF=>exact (fun _ _=>trivial));(case aO=>exact (by (with_reducible repeat (first|apply Kd.R_alloc|apply Kd.R_drewN|apply Kd.R_drew));exact Kd.R_mono (Kd.R_far (p:=⟨gb227,1,none⟩) (Kd.R_far (p:=⟨gb227,0,none⟩) (Kd.R_types HO_5.out BK227.out (by decide)) (fun _ hk=>hk.2) (.int .i64 ((rd_T88 l0_1 x22_2).f0))) (fun _ hk=>hk.2) (.int .i64 ((rd_T88 l0_1 x22_2).f1))) (fun _ hk=>trivial)));(case aS=>exact (below_size (by repeat (first|(with_reducible first|exact HB.out|apply below_alloc|apply pw_below_drewN|apply below_drew1|refine below_set ?_ GE223.out|refine below_set ?_ GE227.out)|exact HB.out))));(case aL=>have:=LMc25.out;omega);intro v232 w29 ho hb hg hat;rw [← Ny231.out] at ho;have n0_:=Aside0.mk (blk_grown (g:=gb223) (o:=.cells #[.int .i64 a0_0,.slice (some ad226) l0_1.length c0_1] 30 (0,0)) (by (with_reducible repeat (first|refine blk_drewN ?_ _|refine blk_drew ?_|refine blk_alloc ?_ _));refine blk_far ?_ NB223_227.out _;(with_reducible repeat (first|refine blk_drewN ?_ _|refine blk_drew ?_|refine blk_alloc ?_ _));refine blk_far ?_ NB223_227.out _;(with_reducible repeat (first|refine blk_drewN ?_ _|refine blk_drew ?_|refine blk_alloc ?_ _));exact BK223.out) hg (Kd.R_ne HO_5.out BK223.out (by decide)));have n1_:=Aside0.mk (blk_grown (g:=gb227) (o:=.cells #[.int .i64 ((rd_T88 l0_1 x22_2).f0),.int .i64 ((rd_T88 l0_1 x22_2).f1)] 88 (0,0)) (by (with_reducible repeat (first|refine blk_drewN ?_ _|refine blk_drew ?_|refine blk_alloc ?_ _));refine blk_put (cs:=#[.int .i64 ((rd_T88 l0_1 x22_2).f0),.int .i64 0]) ?_ 1 _ rfl;(with_reducible repeat (first|refine blk_drewN ?_ _|refine blk_drew ?_|refine blk_alloc ?_ _));refine blk_put (cs:=#[.int .i64 0,.int .i64 0]) ?_ 0 _ rfl;(with_reducible repeat (first|refine blk_drewN ?_ _|refine blk_drew ?_|refine blk_alloc ?_ _));exact BK227.out) hg (Kd.R_ne HO_5.out BK227.out (by decide)));have n2_:=Aside0.mk (hb);have n3_:=Aside0.mk (ho);clear BK223;clear BK227;clear HB;clear HO_5;have BK223:=n0_;have BK227:=n1_;have HB:=n2_;have HO233:=n3_;clear n0_ n1_ n2_ n3_;clear ho hb hg hat))
          go_roundg k2
          case measure=>have:=HJ2.out;have:=HK2.out;omega
          case rel=>exact ⟨(y231),(wrap64 (x22_2+1)),(by first|rfl|(simp;done)|(simp [*];done)),H',⟨by have:=HJ2.out;have:=HK2.out;omega⟩,⟨by exact HO233.out⟩,⟨by exact BK223.out⟩,⟨by exact HB.out⟩⟩
         rw [if_neg c25] at H
         exact absurd H (by simp)
        rw [if_neg c24] at H
        have c24b0:(((rd_T88 l0_1 x22_2).f1)==a1)=false:=beq_eq_false_iff_ne.mpr c24
        have c24b1:(((rd_T88 l0_1 x22_2).f1) != a1)=true:=bne_iff_ne.mpr c24
        have H':=Aside0.mk H
        clear H
        have p226:0≤(x22_2:Int):=of_decide_eq_true (by first|(with_reducible assumption)|assumption)
        have q226:x22_2<(l0_1.length:Int):=of_decide_eq_true (by first|(with_reducible assumption)|assumption)
        obtain ⟨ad226,e226,hx226_0,hx226_1⟩:=at_T88 HR0_1.out x22_2 p226 q226
        cases e226
        replace hx226_0:=(HB.out.cell (World.block_lt_of_cell? w _ hx226_0)).trans hx226_0
        replace hx226_1:=(HB.out.cell (World.block_lt_of_cell? w _ hx226_1)).trans hx226_1
        replace p226:=eq_true p226
        replace q226:=eq_true q226
        go_wp2_with (first|((with_reducible refine gate_dst (N:=7) rfl ?_);refine box_event ?hg (N:=7) ?hd (cs:=#[.int .i64 0,.int .i64 0]) (t:=88) ?hr ?_;(case hd=>rfl);(case hg=>rfl);(case hr=>first|(go_simp;done)|(go_simp;rfl));intro gb227 hg w30 hbox hb;have n0_:=Aside0.mk (Kd.R_below (by exact HO_5.out) hb);have n1_:=Aside0.mk (blk_below (g:=gb223) (o:=.cells #[.int .i64 a0_0,.slice (some ad226) l0_1.length c0_1] 30 (0,0)) (by exact BK223.out) hb);have n2_:=Aside0.mk (below_step (by exact HB.out) hb);have n3_:=Aside0.mk (hbox);have n4_:=Aside0.mk ((by rw [hg];exact (below_size (by exact HB.out)):w.heap.size≤gb227));have n5_:=Aside0.mk ((by rw [hg];exact (below_size (by exact HB.out)):w.heap.size≤gb227));have n6_:=Aside0.mk ((by rw [hg];exact Nat.ne_of_lt (blk_lt (g:=gb223) (o:=.cells #[.int .i64 a0_0,.slice (some ad226) l0_1.length c0_1] 30 (0,0)) (by exact BK223.out)):gb223 ≠ gb227));have n7_:=Aside0.mk ((by rw [hg];exact Nat.ne_of_gt (blk_lt (g:=gb223) (o:=.cells #[.int .i64 a0_0,.slice (some ad226) l0_1.length c0_1] 30 (0,0)) (by exact BK223.out)):gb227 ≠ gb223));clear HO_5;clear BK223;clear HB;have HO_5:=n0_;have BK223:=n1_;have HB:=n2_;have BK227:=n3_;have GW227:=n4_;have GE227:=n5_;have NB223_227:=n6_;have NB227_223:=n7_;clear n0_ n1_ n2_ n3_ n4_ n5_ n6_ n7_;clear hb hbox hg;have hnb31:=NB227_223.out;have hnc31:=NB223_227.out;have hcz32_0:w30.cell? ⟨gb227,0,none⟩=some (.int .i64 0):=(blk_cell BK227.out 0).trans rfl;have hcz32_1:w30.cell? ⟨gb227,1,none⟩=some (.int .i64 0):=(blk_cell BK227.out 1).trans rfl;have hfz32_0:=blk_frozen BK227.out 0;have hfz32_1:=blk_frozen BK227.out 1))
        go_roundg k2
        case measure=>have:=HJ2.out;have:=HK2.out;omega
        case rel=>exact ⟨(x5_2),(wrap64 (x22_2+1)),(by first|rfl|(simp;done)|(simp [*];done)),H',⟨by have:=HJ2.out;have:=HK2.out;omega⟩,⟨by exact Kd.R_mono (Kd.R_far (p:=⟨gb227,1,none⟩) (Kd.R_far (p:=⟨gb227,0,none⟩) (Kd.R_types HO_5.out BK227.out (by decide)) (fun _ hk=>hk.2) (.int .i64 ((rd_T88 l0_1 x22_2).f0))) (fun _ hk=>hk.2) (.int .i64 ((rd_T88 l0_1 x22_2).f1))) (fun _ hk=>trivial)⟩,⟨by refine blk_far ?_ NB223_227.out _;refine blk_far ?_ NB223_227.out _;exact BK223.out⟩,⟨by repeat (first|(with_reducible first|exact HB.out|apply below_alloc|apply pw_below_drewN|apply below_drew1|refine below_set ?_ GE223.out|refine below_set ?_ GE227.out)|exact HB.out)⟩⟩
       rw [if_neg c17] at H
       exact absurd H (by simp)
      rw [if_neg c16] at H
      exact absurd H (by simp)
     rw [if_neg c15] at H
     have c15b0:decide (x22_2<(l0_1.length:Int))=false:=decide_eq_false c15
     clear c15
     obtain rfl:=Option.some.inj H
     go_wp2
     go_ret
     exact ⟨_,by first|rfl|(simp [errW_none,errW_some] <;> rfl)|(simp [*,errW_none,errW_some] <;> rfl),by exact HO_5.out,by exact HB.out⟩
end Go.Proofs.Ytpdnabhpkdchjaa.P
namespace Go.Proofs.Ytpdnabhpkdchjaa.P
open Go.RowKit Go.Proofs.YtpdnabhpkdchjaaW.PrintWords Go.Proofs.YtpdnabhpkdchjaaW.PrintLast
set_option linter.unusedVariables false
set_option linter.unusedSimpArgs false
def hits (s : Int) (x : S88) : Bool := decide (x.f0 = s) || decide (x.f1 = s)
def hitsTo (l : List S88) (s : Int) (i : Nat) : List Int := ((List.range i).filter fun j : Nat => hits s (rd_T88 l (j : Int))).map Int.ofNat
def around (n : Int) (l : List S88) (s : Int) : List Int := if layoutOk n l = 0 ∧ 0 ≤ s ∧ s < n then hitsTo l s l.length else []
theorem hitsTo_succ (l : List S88) (s : Int) (i : Nat) : hitsTo l s (i + 1) = if hits s (rd_T88 l (i : Int)) = true then hitsTo l s i ++ [(i : Int)] else hitsTo l s i := by
  unfold hitsTo
  rw [List.range_succ, List.filter_append, List.map_append]
  by_cases h : hits s (rd_T88 l (i : Int)) = true
  · rw [if_pos h]; simp [List.filter, h]
  · rw [if_neg h]; simp [List.filter, h]
theorem hitsTo_length (l : List S88) (s : Int) (i : Nat) : (hitsTo l s i).length ≤ i := by
  unfold hitsTo
  rw [List.length_map]
  exact Nat.le_trans (List.length_filter_le _ _) (by simp)
theorem specAround_l0 (l : List S88) (s : Int) (hl : l.length ≤ 120) (d : Nat) : ∀ (i : Nat), i + d = l.length → Ev (fun k => spec_Around.l0 k s (hitsTo l s i) l (l.length : Int) i) (hitsTo l s l.length) := by
  induction d with
  | zero => intro i hi; refine Ev.step1 fun k => ?_; simp only [spec_Around.l0]; rw [if_neg (by omega), show i = l.length by omega]
  | succ d ih =>
    intro i hi
    have hlen := hitsTo_length l s i
    refine Ev.step (fun k => ?_) (ih (i + 1) (by omega))
    simp only [spec_Around.l0]
    rw [if_pos (by omega), if_pos (by omega), if_pos (by omega), wrap_succ (by omega), hitsTo_succ]
    by_cases h0 : (rd_T88 l (i : Int)).f0 = s
    · rw [if_pos h0, if_pos (by omega), if_pos (show hits s _ = true by simp [hits, h0])]
    · by_cases h1 : (rd_T88 l (i : Int)).f1 = s
      · rw [if_neg h0, if_pos h1, if_pos (by omega), if_pos (show hits s _ = true by simp [hits, h1])]
      · rw [if_neg h0, if_neg h1, if_neg (show ¬ (hits s _ = true) by simp [hits, h0, h1])]
theorem specAround_ev (n : Int) (l : List S88) (s : Int) : Ev (fun k => spec_Around.f k n l s) (around n l s) := by
  unfold spec_Around.f
  refine Ev.bind (specLayoutOk_ev n l) ?_
  by_cases hl : layoutOk n l = 0
  · obtain ⟨hn1, hn2, hc⟩ := lay_n hl
    refine Ev.ite_pos hl (Ev.call (l1in_eq _ _ _) ?_)
    rw [wrap_id (by omega) (by omega), dec_le_pred]
    by_cases hs : 0 ≤ s ∧ s < n
    · rw [around, if_pos ⟨hl, hs.1, hs.2⟩]
      refine Ev.step (fun k => ?_) (specAround_l0 l s hc l.length 0 (by omega))
      simp only [spec_Around.j0]
      rw [if_neg (by simp [hs.1, hs.2])]
      rfl
    · refine Ev.step1 fun k => ?_
      simp only [spec_Around.j0]
      rw [if_pos (by simp only [Bool.not_eq_true', Bool.and_eq_false_iff, decide_eq_false_iff_not]; omega), around, if_neg (fun h => hs h.2)]
  · refine Ev.ite_neg hl (Ev.step1 fun k => ?_)
    simp only [spec_Around.j0, if_true]
    rw [around, if_neg (fun h => hl h.1)]
end Go.Proofs.Ytpdnabhpkdchjaa.P
namespace Go.Proofs.Ytpdnabhpkdchjaa.P
open Go.RowKit Go.Proofs.YtpdnabhpkdchjaaW.PrintWords Go.Proofs.YtpdnabhpkdchjaaW.PrintLast Go.Proofs.YtpdnabhpkdchjaaW.PrintMore
attribute [local go_sem] max2_int min2_int max_two min_two max_three min_three max_four min_four
set_option linter.unusedVariables false
set_option linter.unusedSimpArgs false
def impl_dead.l0:Nat→Int→List (S88)→Int→Int→Bool→List (S50)→List Bool→Option (Bool)
 | 0,_,_,_,_,_,_,_=>none
 | k+1,x2,x10,x11,x12,x328000,x328001,x328002=>if x12<x11 then (if 0≤x12 then (if x12<(x10.length:Int) then (if x12<(x328002.length:Int) then (if rdOf false x328002 x12=true then (if ((rd_T88 x10 x12).f0)=x2 then (some true) else (if ((rd_T88 x10 x12).f1)=x2 then (some true) else (impl_dead.l0 k x2 x10 x11 (wrap64 (x12+1)) x328000 x328001 x328002))) else (impl_dead.l0 k x2 x10 x11 (wrap64 (x12+1)) x328000 x328001 x328002)) else (none)) else (none)) else (none)) else (some false)
def impl_dead.f (k:Nat) (a0_0:Int) (l0_1:List (S88)) (a1_0:Bool) (l1_1:List (S50)) (l1_2:List Bool) (a2:Int):Option (Bool):=impl_dead.l0 k a2 l0_1 (l0_1.length:Int) 0 a1_0 l1_1 l1_2
set_option maxHeartbeats 8000000 in
set_option maxRecDepth 100000 in
theorem impl_dead.calls (k:Nat) (a0_0:Int) (A0_1:Option Addr) (c0_1:Nat) (l0_1:List (S88)) (a1_0:Bool) (A1_1:Option Addr) (c1_1:Nat) (l1_1:List (S50)) (A1_2:Option Addr) (c1_2:Nat) (l1_2:List Bool) (a2:Int) (r:Bool) (w:World) (hr0_1:Kd.C k88 w A0_1 l0_1.length l0_1) (hc0_1:l0_1.length≤c0_1) (hr1_1:Kd.C k50 w A1_1 l1_1.length l1_1) (hc1_1:l1_1.length≤c1_1) (hr1_2:Kd.C Kd.bool w A1_2 l1_2.length l1_2) (hc1_2:l1_2.length≤c1_2) (h:impl_dead.f k a0_0 l0_1 a1_0 l1_1 l1_2 a2=some r) :
  Calls Try.prog 98 #[.agg #[.int .i64 a0_0,.slice A0_1 l0_1.length c0_1],.agg #[.bool a1_0,.slice A1_1 l1_1.length c1_1,.slice A1_2 l1_2.length c1_2],.int .i64 a2] w fun e w'=>e=.returned (.bool r)∧Below w.heap.size w w':=by
 have hu30:=Try.underlying30
 have hu46:=Try.underlying46
 have hu88:=Try.underlying88
 have HR0_1:=Aside0.mk hr0_1
 have HC0_1:=Aside0.mk hc0_1
 clear hr0_1 hc0_1
 have HR1_1:=Aside0.mk hr1_1
 have HC1_1:=Aside0.mk hc1_1
 clear hr1_1 hc1_1
 have HR1_2:=Aside0.mk hr1_2
 have HC1_2:=Aside0.mk hc1_2
 clear hr1_2 hc1_2
 have HB:=Aside0.mk (Below.refl w.heap.size w)
 have H:(impl_dead.l0 k a2 l0_1 (l0_1.length:Int) 0 a1_0 l1_1 l1_2)=some r:=h
 clear h
 have H':=Aside0.mk H
 clear H
 go_enter Try.func98,Try.ntmps98
 go_wp2_with (first|((with_reducible refine gate_dst (N:=3) rfl ?_);refine box_event ?hg (N:=3) ?hd (cs:=#[.int .i64 a0_0,.slice A0_1 l0_1.length c0_1]) (t:=30) ?hr ?_;(case hd=>rfl);(case hg=>rfl);(case hr=>first|(go_simp;done)|(go_simp;rfl));intro gb326 hg w4 hbox hb;have n0_:=Aside0.mk (below_step (by exact HB.out) hb);have n1_:=Aside0.mk (hbox);have n2_:=Aside0.mk ((by rw [hg];exact (below_size (by exact HB.out)):w.heap.size≤gb326));have n3_:=Aside0.mk ((by rw [hg];exact (below_size (by exact HB.out)):w.heap.size≤gb326));clear HB;have HB:=n0_;have BK326:=n1_;have GW326:=n2_;have GE326:=n3_;clear n0_ n1_ n2_ n3_;clear hb hbox hg)|((with_reducible refine gate_dst (N:=4) rfl ?_);refine box_event ?hg (N:=4) ?hd (cs:=#[.bool a1_0,.slice A1_1 l1_1.length c1_1,.slice A1_2 l1_2.length c1_2]) (t:=46) ?hr ?_;(case hd=>rfl);(case hg=>rfl);(case hr=>first|(go_simp;done)|(go_simp;rfl));intro gb327 hg w5 hbox hb;have n0_:=Aside0.mk (blk_below (g:=gb326) (o:=.cells #[.int .i64 a0_0,.slice A0_1 l0_1.length c0_1] 30 (0,0)) (by exact BK326.out) hb);have n1_:=Aside0.mk (below_step (by exact HB.out) hb);have n2_:=Aside0.mk (hbox);have n3_:=Aside0.mk ((by rw [hg];exact (below_size (by exact HB.out)):w.heap.size≤gb327));have n4_:=Aside0.mk ((by rw [hg];exact (below_size (by exact HB.out)):w.heap.size≤gb327));have n5_:=Aside0.mk ((by rw [hg];exact Nat.ne_of_lt (blk_lt (g:=gb326) (o:=.cells #[.int .i64 a0_0,.slice A0_1 l0_1.length c0_1] 30 (0,0)) (by exact BK326.out)):gb326 ≠ gb327));have n6_:=Aside0.mk ((by rw [hg];exact Nat.ne_of_gt (blk_lt (g:=gb326) (o:=.cells #[.int .i64 a0_0,.slice A0_1 l0_1.length c0_1] 30 (0,0)) (by exact BK326.out)):gb327 ≠ gb326));clear BK326;clear HB;have BK326:=n0_;have HB:=n1_;have BK327:=n2_;have GW327:=n3_;have GE327:=n4_;have NB326_327:=n5_;have NB327_326:=n6_;clear n0_ n1_ n2_ n3_ n4_ n5_ n6_;clear hb hbox hg;have hnb6:=NB326_327.out;have hnc6:=NB327_326.out;have hcz7_0:w5.cell? ⟨gb326,0,none⟩=some (.int .i64 a0_0):=(blk_cell BK326.out 0).trans rfl;have hcz7_1:w5.cell? ⟨gb326,1,none⟩=some (.slice A0_1 l0_1.length c0_1):=(blk_cell BK326.out 1).trans rfl;have hfz7_0:=blk_frozen BK326.out 0;have hfz7_1:=blk_frozen BK326.out 1))
 go_loopg [12] k (fun kq v12 w'=>∃ (x12_1:Int),v12=.int .i64 x12_1∧Aside0 (impl_dead.l0 kq a2 l0_1 (l0_1.length:Int) x12_1 a1_0 l1_1 l1_2=some r)∧Aside0 (kq≤k)∧Aside0 (w'.heap[gb326]?=some (.cells #[.int .i64 a0_0,(.slice A0_1 l0_1.length c0_1)] 30 (0,0)))∧Aside0 (w'.heap[gb327]?=some (.cells #[.bool a1_0,(.slice A1_1 l1_1.length c1_1),(.slice A1_2 l1_2.length c1_2)] 46 (0,0)))∧Aside0 (Below w.heap.size w w'))
 case atStart=>exact ⟨(0),(by first|rfl|(simp;done)|(simp [*];done)),H',⟨Nat.le_refl _⟩,⟨by exact BK326.out⟩,⟨by exact BK327.out⟩,⟨by exact HB.out⟩⟩
 case round =>
  clear H'
  try clear c1
  try clear p2
  try clear c6
  try clear hcz7_0
  try clear hcz7_1
  try clear hfz7_0
  try clear hfz7_1
  obtain ⟨x12_1,rfl,HA,HK1,BK326,BK327,HB⟩:=hrel
  cases gk with
  | zero=>exact absurd HA.out (by simp [impl_dead.l0])
  | succ k1 =>
   have H:=HA.out
   clear HA
   simp only [impl_dead.l0] at H
   by_cases c8:x12_1<(l0_1.length:Int)
   ·rw [if_pos c8] at H
    have c8b0:decide (x12_1<(l0_1.length:Int))=true:=decide_eq_true c8
    clear c8
    by_cases c9:0≤x12_1
    ·rw [if_pos c9] at H
     have c9b0:decide (0≤x12_1)=true:=decide_eq_true c9
     clear c9
     by_cases c10:x12_1<(l0_1.length:Int)
     ·rw [if_pos c10] at H
      have c10b0:decide (x12_1<(l0_1.length:Int))=true:=decide_eq_true c10
      clear c10
      by_cases c11:x12_1<(l1_2.length:Int)
      ·rw [if_pos c11] at H
       have c11b0:decide (x12_1<(l1_2.length:Int))=true:=decide_eq_true c11
       clear c11
       obtain ⟨bq12,hbq12⟩:∃ b_:Bool,b_=(rdOf false l1_2 x12_1):=⟨_,rfl⟩
       replace H:(if bq12=true then (if ((rd_T88 l0_1 x12_1).f0)=a2 then (some true) else (if ((rd_T88 l0_1 x12_1).f1)=a2 then (some true) else (impl_dead.l0 k1 a2 l0_1 (l0_1.length:Int) (wrap64 (x12_1+1)) a1_0 l1_1 l1_2))) else (impl_dead.l0 k1 a2 l0_1 (l0_1.length:Int) (wrap64 (x12_1+1)) a1_0 l1_1 l1_2))=some r:=by rw [← hbq12] at H;exact H
       have Nbq12:=Aside0.mk hbq12
       clear hbq12
       by_cases c13:bq12=true
       ·subst c13
        have H1:(if ((rd_T88 l0_1 x12_1).f0)=a2 then (some true) else (if ((rd_T88 l0_1 x12_1).f1)=a2 then (some true) else (impl_dead.l0 k1 a2 l0_1 (l0_1.length:Int) (wrap64 (x12_1+1)) a1_0 l1_1 l1_2)))=some r:=by rw [if_pos rfl] at H;exact H
        clear H
        have H:=H1
        clear H1
        by_cases c14:((rd_T88 l0_1 x12_1).f0)=a2
        ·rw [if_pos c14] at H
         have c14b0:(((rd_T88 l0_1 x12_1).f0)==a2)=true:=beq_iff_eq.mpr c14
         have c14b1:(((rd_T88 l0_1 x12_1).f0) != a2)=false:=bne_eq_false_iff_eq.mpr c14
         clear c14
         obtain rfl:=Option.some.inj H
         have p328:0≤(x12_1:Int):=of_decide_eq_true (by first|(with_reducible assumption)|assumption)
         have q328:x12_1<(l0_1.length:Int):=of_decide_eq_true (by first|(with_reducible assumption)|assumption)
         obtain ⟨ad328,e328,hx328_0,hx328_1⟩:=at_T88 HR0_1.out x12_1 p328 q328
         cases e328
         replace hx328_0:=(HB.out.cell (World.block_lt_of_cell? w _ hx328_0)).trans hx328_0
         replace hx328_1:=(HB.out.cell (World.block_lt_of_cell? w _ hx328_1)).trans hx328_1
         replace p328:=eq_true p328
         replace q328:=eq_true q328
         go_wp2_with (first|((with_reducible refine gate_dst (N:=8) rfl ?_);refine box_event ?hg (N:=8) ?hd (cs:=#[.int .i64 0,.int .i64 0]) (t:=88) ?hr ?_;(case hd=>rfl);(case hg=>rfl);(case hr=>first|(go_simp;done)|(go_simp;rfl));intro gb329 hg w15 hbox hb;have n0_:=Aside0.mk (blk_below (g:=gb326) (o:=.cells #[.int .i64 a0_0,.slice (some ad328) l0_1.length c0_1] 30 (0,0)) (by exact BK326.out) hb);have n1_:=Aside0.mk (blk_below (g:=gb327) (o:=.cells #[.bool a1_0,.slice A1_1 l1_1.length c1_1,.slice A1_2 l1_2.length c1_2] 46 (0,0)) (by exact BK327.out) hb);have n2_:=Aside0.mk (below_step (by exact HB.out) hb);have n3_:=Aside0.mk (hbox);have n4_:=Aside0.mk ((by rw [hg];exact (below_size (by exact HB.out)):w.heap.size≤gb329));have n5_:=Aside0.mk ((by rw [hg];exact (below_size (by exact HB.out)):w.heap.size≤gb329));have n6_:=Aside0.mk ((by rw [hg];exact Nat.ne_of_lt (blk_lt (g:=gb326) (o:=.cells #[.int .i64 a0_0,.slice (some ad328) l0_1.length c0_1] 30 (0,0)) (by exact BK326.out)):gb326 ≠ gb329));have n7_:=Aside0.mk ((by rw [hg];exact Nat.ne_of_gt (blk_lt (g:=gb326) (o:=.cells #[.int .i64 a0_0,.slice (some ad328) l0_1.length c0_1] 30 (0,0)) (by exact BK326.out)):gb329 ≠ gb326));have n8_:=Aside0.mk ((by rw [hg];exact Nat.ne_of_lt (blk_lt (g:=gb327) (o:=.cells #[.bool a1_0,.slice A1_1 l1_1.length c1_1,.slice A1_2 l1_2.length c1_2] 46 (0,0)) (by exact BK327.out)):gb327 ≠ gb329));have n9_:=Aside0.mk ((by rw [hg];exact Nat.ne_of_gt (blk_lt (g:=gb327) (o:=.cells #[.bool a1_0,.slice A1_1 l1_1.length c1_1,.slice A1_2 l1_2.length c1_2] 46 (0,0)) (by exact BK327.out)):gb329 ≠ gb327));clear BK326;clear BK327;clear HB;have BK326:=n0_;have BK327:=n1_;have HB:=n2_;have BK329:=n3_;have GW329:=n4_;have GE329:=n5_;have NB326_329:=n6_;have NB329_326:=n7_;have NB327_329:=n8_;have NB329_327:=n9_;clear n0_ n1_ n2_ n3_ n4_ n5_ n6_ n7_ n8_ n9_;clear hb hbox hg;have hnb16:=NB329_326.out;have hnc16:=NB326_329.out;have hnb17:=NB329_327.out;have hnc17:=NB327_329.out;have hcz18_0:w15.cell? ⟨gb329,0,none⟩=some (.int .i64 0):=(blk_cell BK329.out 0).trans rfl;have hcz18_1:w15.cell? ⟨gb329,1,none⟩=some (.int .i64 0):=(blk_cell BK329.out 1).trans rfl;have hfz18_0:=blk_frozen BK329.out 0;have hfz18_1:=blk_frozen BK329.out 1;have hnb19:=NB327_326.out;have hnc19:=NB326_327.out;have hcz20_0:w15.cell? ⟨gb327,0,none⟩=some (.bool a1_0):=(blk_cell BK327.out 0).trans rfl;have hcz20_1:w15.cell? ⟨gb327,1,none⟩=some (.slice A1_1 l1_1.length c1_1):=(blk_cell BK327.out 1).trans rfl;have hcz20_2:w15.cell? ⟨gb327,2,none⟩=some (.slice A1_2 l1_2.length c1_2):=(blk_cell BK327.out 2).trans rfl;have hfz20_0:=blk_frozen BK327.out 0;have hfz20_1:=blk_frozen BK327.out 1;have hfz20_2:=blk_frozen BK327.out 2;have p330:0≤(x12_1:Int):=of_decide_eq_true (by first|(with_reducible assumption)|assumption);have q330:x12_1<(l1_2.length:Int):=of_decide_eq_true (by first|(with_reducible assumption)|assumption);obtain ⟨ad330,e330,hx330_0⟩:=Kd.at_bool HR1_2.out x12_1 p330 q330;(try rw [← Nbq12.out] at hx330_0);cases e330;have hn330_0:ad330.block ≠ gb329:=Nat.ne_of_lt (Nat.lt_of_lt_of_le (by have:=World.block_lt_of_cell? _ _ hx330_0;first|rwa [add_block] at this|exact this) GW329.out);have hn330_1:ad330.block ≠ gb329:=Nat.ne_of_lt (Nat.lt_of_lt_of_le (by have:=World.block_lt_of_cell? _ _ hx330_0;first|rwa [add_block] at this|exact this) GW329.out);replace hx330_0:=(HB.out.cell (World.block_lt_of_cell? w _ hx330_0)).trans hx330_0;replace hx330_0:=(cell_far (p:=⟨gb329,0,none⟩) (by first|(rw [add_block];exact hn330_0)|(show (Addr.add _ _).block ≠ _;rw [add_block];exact hn330_0)|exact hn330_0) (.int .i64 ((rd_T88 l0_1 x12_1).f0))).trans hx330_0;replace hx330_0:=(cell_far (p:=⟨gb329,1,none⟩) (by first|(rw [add_block];exact hn330_1)|(show (Addr.add _ _).block ≠ _;rw [add_block];exact hn330_1)|exact hn330_1) (.int .i64 ((rd_T88 l0_1 x12_1).f1))).trans hx330_0;clear hn330_0;clear hn330_1;replace p330:=eq_true p330;replace q330:=eq_true q330))
         go_ret
         exact ⟨by first|rfl|(simp [errW_none,errW_some] <;> rfl)|(simp [*,errW_none,errW_some] <;> rfl),by repeat (first|(with_reducible first|exact HB.out|apply below_alloc|apply pw_below_drewN|apply below_drew1|refine below_set ?_ GE326.out|refine below_set ?_ GE327.out|refine below_set ?_ GE329.out)|exact HB.out)⟩
        rw [if_neg c14] at H
        have c14b0:(((rd_T88 l0_1 x12_1).f0)==a2)=false:=beq_eq_false_iff_ne.mpr c14
        have c14b1:(((rd_T88 l0_1 x12_1).f0) != a2)=true:=bne_iff_ne.mpr c14
        by_cases c21:((rd_T88 l0_1 x12_1).f1)=a2
        ·rw [if_pos c21] at H
         have c21b0:(((rd_T88 l0_1 x12_1).f1)==a2)=true:=beq_iff_eq.mpr c21
         have c21b1:(((rd_T88 l0_1 x12_1).f1) != a2)=false:=bne_eq_false_iff_eq.mpr c21
         clear c21
         obtain rfl:=Option.some.inj H
         have p328:0≤(x12_1:Int):=of_decide_eq_true (by first|(with_reducible assumption)|assumption)
         have q328:x12_1<(l0_1.length:Int):=of_decide_eq_true (by first|(with_reducible assumption)|assumption)
         obtain ⟨ad328,e328,hx328_0,hx328_1⟩:=at_T88 HR0_1.out x12_1 p328 q328
         cases e328
         replace hx328_0:=(HB.out.cell (World.block_lt_of_cell? w _ hx328_0)).trans hx328_0
         replace hx328_1:=(HB.out.cell (World.block_lt_of_cell? w _ hx328_1)).trans hx328_1
         replace p328:=eq_true p328
         replace q328:=eq_true q328
         go_wp2_with (first|((with_reducible refine gate_dst (N:=8) rfl ?_);refine box_event ?hg (N:=8) ?hd (cs:=#[.int .i64 0,.int .i64 0]) (t:=88) ?hr ?_;(case hd=>rfl);(case hg=>rfl);(case hr=>first|(go_simp;done)|(go_simp;rfl));intro gb329 hg w22 hbox hb;have n0_:=Aside0.mk (blk_below (g:=gb326) (o:=.cells #[.int .i64 a0_0,.slice (some ad328) l0_1.length c0_1] 30 (0,0)) (by exact BK326.out) hb);have n1_:=Aside0.mk (blk_below (g:=gb327) (o:=.cells #[.bool a1_0,.slice A1_1 l1_1.length c1_1,.slice A1_2 l1_2.length c1_2] 46 (0,0)) (by exact BK327.out) hb);have n2_:=Aside0.mk (below_step (by exact HB.out) hb);have n3_:=Aside0.mk (hbox);have n4_:=Aside0.mk ((by rw [hg];exact (below_size (by exact HB.out)):w.heap.size≤gb329));have n5_:=Aside0.mk ((by rw [hg];exact (below_size (by exact HB.out)):w.heap.size≤gb329));have n6_:=Aside0.mk ((by rw [hg];exact Nat.ne_of_lt (blk_lt (g:=gb326) (o:=.cells #[.int .i64 a0_0,.slice (some ad328) l0_1.length c0_1] 30 (0,0)) (by exact BK326.out)):gb326 ≠ gb329));have n7_:=Aside0.mk ((by rw [hg];exact Nat.ne_of_gt (blk_lt (g:=gb326) (o:=.cells #[.int .i64 a0_0,.slice (some ad328) l0_1.length c0_1] 30 (0,0)) (by exact BK326.out)):gb329 ≠ gb326));have n8_:=Aside0.mk ((by rw [hg];exact Nat.ne_of_lt (blk_lt (g:=gb327) (o:=.cells #[.bool a1_0,.slice A1_1 l1_1.length c1_1,.slice A1_2 l1_2.length c1_2] 46 (0,0)) (by exact BK327.out)):gb327 ≠ gb329));have n9_:=Aside0.mk ((by rw [hg];exact Nat.ne_of_gt (blk_lt (g:=gb327) (o:=.cells #[.bool a1_0,.slice A1_1 l1_1.length c1_1,.slice A1_2 l1_2.length c1_2] 46 (0,0)) (by exact BK327.out)):gb329 ≠ gb327));clear BK326;clear BK327;clear HB;have BK326:=n0_;have BK327:=n1_;have HB:=n2_;have BK329:=n3_;have GW329:=n4_;have GE329:=n5_;have NB326_329:=n6_;have NB329_326:=n7_;have NB327_329:=n8_;have NB329_327:=n9_;clear n0_ n1_ n2_ n3_ n4_ n5_ n6_ n7_ n8_ n9_;clear hb hbox hg;have hnb23:=NB329_326.out;have hnc23:=NB326_329.out;have hnb24:=NB329_327.out;have hnc24:=NB327_329.out;have hcz25_0:w22.cell? ⟨gb329,0,none⟩=some (.int .i64 0):=(blk_cell BK329.out 0).trans rfl;have hcz25_1:w22.cell? ⟨gb329,1,none⟩=some (.int .i64 0):=(blk_cell BK329.out 1).trans rfl;have hfz25_0:=blk_frozen BK329.out 0;have hfz25_1:=blk_frozen BK329.out 1;have hnb26:=NB327_326.out;have hnc26:=NB326_327.out;have hcz27_0:w22.cell? ⟨gb327,0,none⟩=some (.bool a1_0):=(blk_cell BK327.out 0).trans rfl;have hcz27_1:w22.cell? ⟨gb327,1,none⟩=some (.slice A1_1 l1_1.length c1_1):=(blk_cell BK327.out 1).trans rfl;have hcz27_2:w22.cell? ⟨gb327,2,none⟩=some (.slice A1_2 l1_2.length c1_2):=(blk_cell BK327.out 2).trans rfl;have hfz27_0:=blk_frozen BK327.out 0;have hfz27_1:=blk_frozen BK327.out 1;have hfz27_2:=blk_frozen BK327.out 2;have p330:0≤(x12_1:Int):=of_decide_eq_true (by first|(with_reducible assumption)|assumption);have q330:x12_1<(l1_2.length:Int):=of_decide_eq_true (by first|(with_reducible assumption)|assumption);obtain ⟨ad330,e330,hx330_0⟩:=Kd.at_bool HR1_2.out x12_1 p330 q330;(try rw [← Nbq12.out] at hx330_0);cases e330;have hn330_0:ad330.block ≠ gb329:=Nat.ne_of_lt (Nat.lt_of_lt_of_le (by have:=World.block_lt_of_cell? _ _ hx330_0;first|rwa [add_block] at this|exact this) GW329.out);have hn330_1:ad330.block ≠ gb329:=Nat.ne_of_lt (Nat.lt_of_lt_of_le (by have:=World.block_lt_of_cell? _ _ hx330_0;first|rwa [add_block] at this|exact this) GW329.out);replace hx330_0:=(HB.out.cell (World.block_lt_of_cell? w _ hx330_0)).trans hx330_0;replace hx330_0:=(cell_far (p:=⟨gb329,0,none⟩) (by first|(rw [add_block];exact hn330_0)|(show (Addr.add _ _).block ≠ _;rw [add_block];exact hn330_0)|exact hn330_0) (.int .i64 ((rd_T88 l0_1 x12_1).f0))).trans hx330_0;replace hx330_0:=(cell_far (p:=⟨gb329,1,none⟩) (by first|(rw [add_block];exact hn330_1)|(show (Addr.add _ _).block ≠ _;rw [add_block];exact hn330_1)|exact hn330_1) (.int .i64 ((rd_T88 l0_1 x12_1).f1))).trans hx330_0;clear hn330_0;clear hn330_1;replace p330:=eq_true p330;replace q330:=eq_true q330))
         go_ret
         exact ⟨by first|rfl|(simp [errW_none,errW_some] <;> rfl)|(simp [*,errW_none,errW_some] <;> rfl),by repeat (first|(with_reducible first|exact HB.out|apply below_alloc|apply pw_below_drewN|apply below_drew1|refine below_set ?_ GE326.out|refine below_set ?_ GE327.out|refine below_set ?_ GE329.out)|exact HB.out)⟩
        rw [if_neg c21] at H
        have c21b0:(((rd_T88 l0_1 x12_1).f1)==a2)=false:=beq_eq_false_iff_ne.mpr c21
        have c21b1:(((rd_T88 l0_1 x12_1).f1) != a2)=true:=bne_iff_ne.mpr c21
        have H':=Aside0.mk H
        clear H
        have p328:0≤(x12_1:Int):=of_decide_eq_true (by first|(with_reducible assumption)|assumption)
        have q328:x12_1<(l0_1.length:Int):=of_decide_eq_true (by first|(with_reducible assumption)|assumption)
        obtain ⟨ad328,e328,hx328_0,hx328_1⟩:=at_T88 HR0_1.out x12_1 p328 q328
        cases e328
        replace hx328_0:=(HB.out.cell (World.block_lt_of_cell? w _ hx328_0)).trans hx328_0
        replace hx328_1:=(HB.out.cell (World.block_lt_of_cell? w _ hx328_1)).trans hx328_1
        replace p328:=eq_true p328
        replace q328:=eq_true q328
        go_wp2_with (first|((with_reducible refine gate_dst (N:=8) rfl ?_);refine box_event ?hg (N:=8) ?hd (cs:=#[.int .i64 0,.int .i64 0]) (t:=88) ?hr ?_;(case hd=>rfl);(case hg=>rfl);(case hr=>first|(go_simp;done)|(go_simp;rfl));intro gb329 hg w28 hbox hb;have n0_:=Aside0.mk (blk_below (g:=gb326) (o:=.cells #[.int .i64 a0_0,.slice (some ad328) l0_1.length c0_1] 30 (0,0)) (by exact BK326.out) hb);have n1_:=Aside0.mk (blk_below (g:=gb327) (o:=.cells #[.bool a1_0,.slice A1_1 l1_1.length c1_1,.slice A1_2 l1_2.length c1_2] 46 (0,0)) (by exact BK327.out) hb);have n2_:=Aside0.mk (below_step (by exact HB.out) hb);have n3_:=Aside0.mk (hbox);have n4_:=Aside0.mk ((by rw [hg];exact (below_size (by exact HB.out)):w.heap.size≤gb329));have n5_:=Aside0.mk ((by rw [hg];exact (below_size (by exact HB.out)):w.heap.size≤gb329));have n6_:=Aside0.mk ((by rw [hg];exact Nat.ne_of_lt (blk_lt (g:=gb326) (o:=.cells #[.int .i64 a0_0,.slice (some ad328) l0_1.length c0_1] 30 (0,0)) (by exact BK326.out)):gb326 ≠ gb329));have n7_:=Aside0.mk ((by rw [hg];exact Nat.ne_of_gt (blk_lt (g:=gb326) (o:=.cells #[.int .i64 a0_0,.slice (some ad328) l0_1.length c0_1] 30 (0,0)) (by exact BK326.out)):gb329 ≠ gb326));have n8_:=Aside0.mk ((by rw [hg];exact Nat.ne_of_lt (blk_lt (g:=gb327) (o:=.cells #[.bool a1_0,.slice A1_1 l1_1.length c1_1,.slice A1_2 l1_2.length c1_2] 46 (0,0)) (by exact BK327.out)):gb327 ≠ gb329));have n9_:=Aside0.mk ((by rw [hg];exact Nat.ne_of_gt (blk_lt (g:=gb327) (o:=.cells #[.bool a1_0,.slice A1_1 l1_1.length c1_1,.slice A1_2 l1_2.length c1_2] 46 (0,0)) (by exact BK327.out)):gb329 ≠ gb327));clear BK326;clear BK327;clear HB;have BK326:=n0_;have BK327:=n1_;have HB:=n2_;have BK329:=n3_;have GW329:=n4_;have GE329:=n5_;have NB326_329:=n6_;have NB329_326:=n7_;have NB327_329:=n8_;have NB329_327:=n9_;clear n0_ n1_ n2_ n3_ n4_ n5_ n6_ n7_ n8_ n9_;clear hb hbox hg;have hnb29:=NB329_326.out;have hnc29:=NB326_329.out;have hnb30:=NB329_327.out;have hnc30:=NB327_329.out;have hcz31_0:w28.cell? ⟨gb329,0,none⟩=some (.int .i64 0):=(blk_cell BK329.out 0).trans rfl;have hcz31_1:w28.cell? ⟨gb329,1,none⟩=some (.int .i64 0):=(blk_cell BK329.out 1).trans rfl;have hfz31_0:=blk_frozen BK329.out 0;have hfz31_1:=blk_frozen BK329.out 1;have hnb32:=NB327_326.out;have hnc32:=NB326_327.out;have hcz33_0:w28.cell? ⟨gb327,0,none⟩=some (.bool a1_0):=(blk_cell BK327.out 0).trans rfl;have hcz33_1:w28.cell? ⟨gb327,1,none⟩=some (.slice A1_1 l1_1.length c1_1):=(blk_cell BK327.out 1).trans rfl;have hcz33_2:w28.cell? ⟨gb327,2,none⟩=some (.slice A1_2 l1_2.length c1_2):=(blk_cell BK327.out 2).trans rfl;have hfz33_0:=blk_frozen BK327.out 0;have hfz33_1:=blk_frozen BK327.out 1;have hfz33_2:=blk_frozen BK327.out 2;have p330:0≤(x12_1:Int):=of_decide_eq_true (by first|(with_reducible assumption)|assumption);have q330:x12_1<(l1_2.length:Int):=of_decide_eq_true (by first|(with_reducible assumption)|assumption);obtain ⟨ad330,e330,hx330_0⟩:=Kd.at_bool HR1_2.out x12_1 p330 q330;(try rw [← Nbq12.out] at hx330_0);cases e330;have hn330_0:ad330.block ≠ gb329:=Nat.ne_of_lt (Nat.lt_of_lt_of_le (by have:=World.block_lt_of_cell? _ _ hx330_0;first|rwa [add_block] at this|exact this) GW329.out);have hn330_1:ad330.block ≠ gb329:=Nat.ne_of_lt (Nat.lt_of_lt_of_le (by have:=World.block_lt_of_cell? _ _ hx330_0;first|rwa [add_block] at this|exact this) GW329.out);replace hx330_0:=(HB.out.cell (World.block_lt_of_cell? w _ hx330_0)).trans hx330_0;replace hx330_0:=(cell_far (p:=⟨gb329,0,none⟩) (by first|(rw [add_block];exact hn330_0)|(show (Addr.add _ _).block ≠ _;rw [add_block];exact hn330_0)|exact hn330_0) (.int .i64 ((rd_T88 l0_1 x12_1).f0))).trans hx330_0;replace hx330_0:=(cell_far (p:=⟨gb329,1,none⟩) (by first|(rw [add_block];exact hn330_1)|(show (Addr.add _ _).block ≠ _;rw [add_block];exact hn330_1)|exact hn330_1) (.int .i64 ((rd_T88 l0_1 x12_1).f1))).trans hx330_0;clear hn330_0;clear hn330_1;replace p330:=eq_true p330;replace q330:=eq_true q330))
        go_roundg k1
        case measure=>have:=HK1.out;omega
        case rel=>exact ⟨(wrap64 (x12_1+1)),(by first|rfl|(simp;done)|(simp [*];done)),H',⟨by have:=HK1.out;omega⟩,⟨by refine blk_far ?_ NB326_329.out _;refine blk_far ?_ NB326_329.out _;exact BK326.out⟩,⟨by refine blk_far ?_ NB327_329.out _;refine blk_far ?_ NB327_329.out _;exact BK327.out⟩,⟨by repeat (first|(with_reducible first|exact HB.out|apply below_alloc|apply pw_below_drewN|apply below_drew1|refine below_set ?_ GE326.out|refine below_set ?_ GE327.out|refine below_set ?_ GE329.out)|exact HB.out)⟩⟩
       replace c13:=Bool.eq_false_iff.mpr c13
       subst c13
       have H1:(impl_dead.l0 k1 a2 l0_1 (l0_1.length:Int) (wrap64 (x12_1+1)) a1_0 l1_1 l1_2)=some r:=by rw [if_neg (show ¬ (false=true) by decide)] at H;exact H
       clear H
       have H:=H1
       clear H1
       have H':=Aside0.mk H
       clear H
       have p328:0≤(x12_1:Int):=of_decide_eq_true (by first|(with_reducible assumption)|assumption)
       have q328:x12_1<(l0_1.length:Int):=of_decide_eq_true (by first|(with_reducible assumption)|assumption)
       obtain ⟨ad328,e328,hx328_0,hx328_1⟩:=at_T88 HR0_1.out x12_1 p328 q328
       cases e328
       replace hx328_0:=(HB.out.cell (World.block_lt_of_cell? w _ hx328_0)).trans hx328_0
       replace hx328_1:=(HB.out.cell (World.block_lt_of_cell? w _ hx328_1)).trans hx328_1
       replace p328:=eq_true p328
       replace q328:=eq_true q328
       go_wp2_with (first|((with_reducible refine gate_dst (N:=8) rfl ?_);refine box_event ?hg (N:=8) ?hd (cs:=#[.int .i64 0,.int .i64 0]) (t:=88) ?hr ?_;(case hd=>rfl);(case hg=>rfl);(case hr=>first|(go_simp;done)|(go_simp;rfl));intro gb329 hg w34 hbox hb;have n0_:=Aside0.mk (blk_below (g:=gb326) (o:=.cells #[.int .i64 a0_0,.slice (some ad328) l0_1.length c0_1] 30 (0,0)) (by exact BK326.out) hb);have n1_:=Aside0.mk (blk_below (g:=gb327) (o:=.cells #[.bool a1_0,.slice A1_1 l1_1.length c1_1,.slice A1_2 l1_2.length c1_2] 46 (0,0)) (by exact BK327.out) hb);have n2_:=Aside0.mk (below_step (by exact HB.out) hb);have n3_:=Aside0.mk (hbox);have n4_:=Aside0.mk ((by rw [hg];exact (below_size (by exact HB.out)):w.heap.size≤gb329));have n5_:=Aside0.mk ((by rw [hg];exact (below_size (by exact HB.out)):w.heap.size≤gb329));have n6_:=Aside0.mk ((by rw [hg];exact Nat.ne_of_lt (blk_lt (g:=gb326) (o:=.cells #[.int .i64 a0_0,.slice (some ad328) l0_1.length c0_1] 30 (0,0)) (by exact BK326.out)):gb326 ≠ gb329));have n7_:=Aside0.mk ((by rw [hg];exact Nat.ne_of_gt (blk_lt (g:=gb326) (o:=.cells #[.int .i64 a0_0,.slice (some ad328) l0_1.length c0_1] 30 (0,0)) (by exact BK326.out)):gb329 ≠ gb326));have n8_:=Aside0.mk ((by rw [hg];exact Nat.ne_of_lt (blk_lt (g:=gb327) (o:=.cells #[.bool a1_0,.slice A1_1 l1_1.length c1_1,.slice A1_2 l1_2.length c1_2] 46 (0,0)) (by exact BK327.out)):gb327 ≠ gb329));have n9_:=Aside0.mk ((by rw [hg];exact Nat.ne_of_gt (blk_lt (g:=gb327) (o:=.cells #[.bool a1_0,.slice A1_1 l1_1.length c1_1,.slice A1_2 l1_2.length c1_2] 46 (0,0)) (by exact BK327.out)):gb329 ≠ gb327));clear BK326;clear BK327;clear HB;have BK326:=n0_;have BK327:=n1_;have HB:=n2_;have BK329:=n3_;have GW329:=n4_;have GE329:=n5_;have NB326_329:=n6_;have NB329_326:=n7_;have NB327_329:=n8_;have NB329_327:=n9_;clear n0_ n1_ n2_ n3_ n4_ n5_ n6_ n7_ n8_ n9_;clear hb hbox hg;have hnb35:=NB329_326.out;have hnc35:=NB326_329.out;have hnb36:=NB329_327.out;have hnc36:=NB327_329.out;have hcz37_0:w34.cell? ⟨gb329,0,none⟩=some (.int .i64 0):=(blk_cell BK329.out 0).trans rfl;have hcz37_1:w34.cell? ⟨gb329,1,none⟩=some (.int .i64 0):=(blk_cell BK329.out 1).trans rfl;have hfz37_0:=blk_frozen BK329.out 0;have hfz37_1:=blk_frozen BK329.out 1;have hnb38:=NB327_326.out;have hnc38:=NB326_327.out;have hcz39_0:w34.cell? ⟨gb327,0,none⟩=some (.bool a1_0):=(blk_cell BK327.out 0).trans rfl;have hcz39_1:w34.cell? ⟨gb327,1,none⟩=some (.slice A1_1 l1_1.length c1_1):=(blk_cell BK327.out 1).trans rfl;have hcz39_2:w34.cell? ⟨gb327,2,none⟩=some (.slice A1_2 l1_2.length c1_2):=(blk_cell BK327.out 2).trans rfl;have hfz39_0:=blk_frozen BK327.out 0;have hfz39_1:=blk_frozen BK327.out 1;have hfz39_2:=blk_frozen BK327.out 2;have p330:0≤(x12_1:Int):=of_decide_eq_true (by first|(with_reducible assumption)|assumption);have q330:x12_1<(l1_2.length:Int):=of_decide_eq_true (by first|(with_reducible assumption)|assumption);obtain ⟨ad330,e330,hx330_0⟩:=Kd.at_bool HR1_2.out x12_1 p330 q330;(try rw [← Nbq12.out] at hx330_0);cases e330;have hn330_0:ad330.block ≠ gb329:=Nat.ne_of_lt (Nat.lt_of_lt_of_le (by have:=World.block_lt_of_cell? _ _ hx330_0;first|rwa [add_block] at this|exact this) GW329.out);have hn330_1:ad330.block ≠ gb329:=Nat.ne_of_lt (Nat.lt_of_lt_of_le (by have:=World.block_lt_of_cell? _ _ hx330_0;first|rwa [add_block] at this|exact this) GW329.out);replace hx330_0:=(HB.out.cell (World.block_lt_of_cell? w _ hx330_0)).trans hx330_0;replace hx330_0:=(cell_far (p:=⟨gb329,0,none⟩) (by first|(rw [add_block];exact hn330_0)|(show (Addr.add _ _).block ≠ _;rw [add_block];exact hn330_0)|exact hn330_0) (.int .i64 ((rd_T88 l0_1 x12_1).f0))).trans hx330_0;replace hx330_0:=(cell_far (p:=⟨gb329,1,none⟩) (by first|(rw [add_block];exact hn330_1)|(show (Addr.add _ _).block ≠ _;rw [add_block];exact hn330_1)|exact hn330_1) (.int .i64 ((rd_T88 l0_1 x12_1).f1))).trans hx330_0;clear hn330_0;clear hn330_1;replace p330:=eq_true p330;replace q330:=eq_true q330))
       go_roundg k1
       case measure=>have:=HK1.out;omega
       case rel=>exact ⟨(wrap64 (x12_1+1)),(by first|rfl|(simp;done)|(simp [*];done)),H',⟨by have:=HK1.out;omega⟩,⟨by refine blk_far ?_ NB326_329.out _;refine blk_far ?_ NB326_329.out _;exact BK326.out⟩,⟨by refine blk_far ?_ NB327_329.out _;refine blk_far ?_ NB327_329.out _;exact BK327.out⟩,⟨by repeat (first|(with_reducible first|exact HB.out|apply below_alloc|apply pw_below_drewN|apply below_drew1|refine below_set ?_ GE326.out|refine below_set ?_ GE327.out|refine below_set ?_ GE329.out)|exact HB.out)⟩⟩
      rw [if_neg c11] at H
      exact absurd H (by simp)
     rw [if_neg c10] at H
     exact absurd H (by simp)
    rw [if_neg c9] at H
    exact absurd H (by simp)
   rw [if_neg c8] at H
   have c8b0:decide (x12_1<(l0_1.length:Int))=false:=decide_eq_false c8
   clear c8
   obtain rfl:=Option.some.inj H
   go_wp2
   go_ret
   exact ⟨by first|rfl|(simp [errW_none,errW_some] <;> rfl)|(simp [*,errW_none,errW_some] <;> rfl),by exact HB.out⟩
end Go.Proofs.Ytpdnabhpkdchjaa.P
namespace Go.Proofs.Ytpdnabhpkdchjaa.P
open Go.RowKit Go.Proofs.YtpdnabhpkdchjaaW.PrintWords Go.Proofs.YtpdnabhpkdchjaaW.PrintLast Go.Proofs.YtpdnabhpkdchjaaW.PrintMore
attribute [local go_sem] max2_int min2_int max_two min_two max_three min_three max_four min_four
set_option linter.unusedVariables false
set_option linter.unusedSimpArgs false
def impl_told.j0:Nat→Bool→Int→Int→Bool→Bool→Int→Option (Int)
 | 0,_,_,_,_,_,_=>none
 | k+1,x18,x335000,x335001,x335002,x335003,x335004=>if x18=true then (some 1) else (if x335003=true then (some 2) else (some 0))
def impl_told.f (k:Nat) (a0_0:Int) (l0_1:List (S88)) (a1_0:Bool) (l1_1:List (S50)) (l1_2:List Bool) (a2:Int):Option (Int):=if 0≤a2 then (if a2<(l1_1.length:Int) then ((impl_dead.f k a0_0 l0_1 a1_0 l1_1 l1_2 a2).bind fun t335=>(if t335=true then (some 3) else (if (rd_T50 l1_1 a2).f2=true then (impl_told.j0 k true ((rd_T50 l1_1 a2).f0) ((rd_T50 l1_1 a2).f1) ((rd_T50 l1_1 a2).f2) ((rd_T50 l1_1 a2).f3) ((rd_T50 l1_1 a2).f4)) else (if ((rd_T50 l1_1 a2).f1)=0 then (impl_told.j0 k false ((rd_T50 l1_1 a2).f0) ((rd_T50 l1_1 a2).f1) ((rd_T50 l1_1 a2).f2) ((rd_T50 l1_1 a2).f3) ((rd_T50 l1_1 a2).f4)) else (impl_told.j0 k (!((rd_T50 l1_1 a2).f3)) ((rd_T50 l1_1 a2).f0) ((rd_T50 l1_1 a2).f1) ((rd_T50 l1_1 a2).f2) ((rd_T50 l1_1 a2).f3) ((rd_T50 l1_1 a2).f4)))))) else (none)) else (none)
set_option maxHeartbeats 8000000 in
set_option maxRecDepth 100000 in
theorem impl_told.calls (k:Nat) (a0_0:Int) (A0_1:Option Addr) (c0_1:Nat) (l0_1:List (S88)) (a1_0:Bool) (A1_1:Option Addr) (c1_1:Nat) (l1_1:List (S50)) (A1_2:Option Addr) (c1_2:Nat) (l1_2:List Bool) (a2:Int) (r:Int) (w:World) (hr0_1:Kd.C k88 w A0_1 l0_1.length l0_1) (hc0_1:l0_1.length≤c0_1) (hr1_1:Kd.C k50 w A1_1 l1_1.length l1_1) (hc1_1:l1_1.length≤c1_1) (hr1_2:Kd.C Kd.bool w A1_2 l1_2.length l1_2) (hc1_2:l1_2.length≤c1_2) (h:impl_told.f k a0_0 l0_1 a1_0 l1_1 l1_2 a2=some r) :
  Calls Try.prog 97 #[.agg #[.int .i64 a0_0,.slice A0_1 l0_1.length c0_1],.agg #[.bool a1_0,.slice A1_1 l1_1.length c1_1,.slice A1_2 l1_2.length c1_2],.int .i64 a2] w fun e w'=>e=.returned (.int .i64 r)∧Below w.heap.size w w':=by
 have hu30:=Try.underlying30
 have hu46:=Try.underlying46
 have hu50:=Try.underlying50
 have HR0_1:=Aside0.mk hr0_1
 have HC0_1:=Aside0.mk hc0_1
 clear hr0_1 hc0_1
 have HR1_1:=Aside0.mk hr1_1
 have HC1_1:=Aside0.mk hc1_1
 clear hr1_1 hc1_1
 have HR1_2:=Aside0.mk hr1_2
 have HC1_2:=Aside0.mk hc1_2
 clear hr1_2 hc1_2
 have HB:=Aside0.mk (Below.refl w.heap.size w)
 have H:(if 0≤a2 then (if a2<(l1_1.length:Int) then ((impl_dead.f k a0_0 l0_1 a1_0 l1_1 l1_2 a2).bind fun t335=>(if t335=true then (some 3) else (if (rd_T50 l1_1 a2).f2=true then (impl_told.j0 k true ((rd_T50 l1_1 a2).f0) ((rd_T50 l1_1 a2).f1) ((rd_T50 l1_1 a2).f2) ((rd_T50 l1_1 a2).f3) ((rd_T50 l1_1 a2).f4)) else (if ((rd_T50 l1_1 a2).f1)=0 then (impl_told.j0 k false ((rd_T50 l1_1 a2).f0) ((rd_T50 l1_1 a2).f1) ((rd_T50 l1_1 a2).f2) ((rd_T50 l1_1 a2).f3) ((rd_T50 l1_1 a2).f4)) else (impl_told.j0 k (!((rd_T50 l1_1 a2).f3)) ((rd_T50 l1_1 a2).f0) ((rd_T50 l1_1 a2).f1) ((rd_T50 l1_1 a2).f2) ((rd_T50 l1_1 a2).f3) ((rd_T50 l1_1 a2).f4)))))) else (none)) else (none))=some r:=h
 clear h
 by_cases c4:0≤a2
 ·rw [if_pos c4] at H
  have c4b0:decide (0≤a2)=true:=decide_eq_true c4
  clear c4
  by_cases c5:a2<(l1_1.length:Int)
  ·rw [if_pos c5] at H
   have c5b0:decide (a2<(l1_1.length:Int))=true:=decide_eq_true c5
   clear c5
   replace H:=Option.bind_eq_some_iff.mp H
   obtain ⟨t335,A60,H⟩:=H
   replace H:(if t335=true then (some 3) else (if (rd_T50 l1_1 a2).f2=true then (impl_told.j0 k true ((rd_T50 l1_1 a2).f0) ((rd_T50 l1_1 a2).f1) ((rd_T50 l1_1 a2).f2) ((rd_T50 l1_1 a2).f3) ((rd_T50 l1_1 a2).f4)) else (if ((rd_T50 l1_1 a2).f1)=0 then (impl_told.j0 k false ((rd_T50 l1_1 a2).f0) ((rd_T50 l1_1 a2).f1) ((rd_T50 l1_1 a2).f2) ((rd_T50 l1_1 a2).f3) ((rd_T50 l1_1 a2).f4)) else (impl_told.j0 k (!((rd_T50 l1_1 a2).f3)) ((rd_T50 l1_1 a2).f0) ((rd_T50 l1_1 a2).f1) ((rd_T50 l1_1 a2).f2) ((rd_T50 l1_1 a2).f3) ((rd_T50 l1_1 a2).f4)))))=some r:=H
   have A6:=Aside0.mk A60
   clear A60
   by_cases c7:t335=true
   ·subst c7
    have H1:(some 3)=some r:=by rw [if_pos rfl] at H;exact H
    clear H
    have H:=H1
    clear H1
    obtain rfl:=Option.some.inj H
    go_enter Try.func97,Try.ntmps97
    go_wp2_with (first|((with_reducible refine gate_dst (N:=3) rfl ?_);refine box_event ?hg (N:=3) ?hd (cs:=#[.int .i64 a0_0,.slice A0_1 l0_1.length c0_1]) (t:=30) ?hr ?_;(case hd=>rfl);(case hg=>rfl);(case hr=>first|(go_simp;done)|(go_simp;rfl));intro gb331 hg w8 hbox hb;have n0_:=Aside0.mk (below_step (by exact HB.out) hb);have n1_:=Aside0.mk (hbox);have n2_:=Aside0.mk ((by rw [hg];exact (below_size (by exact HB.out)):w.heap.size≤gb331));have n3_:=Aside0.mk ((by rw [hg];exact (below_size (by exact HB.out)):w.heap.size≤gb331));clear HB;have HB:=n0_;have BK331:=n1_;have GW331:=n2_;have GE331:=n3_;clear n0_ n1_ n2_ n3_;clear hb hbox hg)|((with_reducible refine gate_dst (N:=4) rfl ?_);refine box_event ?hg (N:=4) ?hd (cs:=#[.bool a1_0,.slice A1_1 l1_1.length c1_1,.slice A1_2 l1_2.length c1_2]) (t:=46) ?hr ?_;(case hd=>rfl);(case hg=>rfl);(case hr=>first|(go_simp;done)|(go_simp;rfl));intro gb332 hg w9 hbox hb;have n0_:=Aside0.mk (blk_below (g:=gb331) (o:=.cells #[.int .i64 a0_0,.slice A0_1 l0_1.length c0_1] 30 (0,0)) (by exact BK331.out) hb);have n1_:=Aside0.mk (below_step (by exact HB.out) hb);have n2_:=Aside0.mk (hbox);have n3_:=Aside0.mk ((by rw [hg];exact (below_size (by exact HB.out)):w.heap.size≤gb332));have n4_:=Aside0.mk ((by rw [hg];exact (below_size (by exact HB.out)):w.heap.size≤gb332));have n5_:=Aside0.mk ((by rw [hg];exact Nat.ne_of_lt (blk_lt (g:=gb331) (o:=.cells #[.int .i64 a0_0,.slice A0_1 l0_1.length c0_1] 30 (0,0)) (by exact BK331.out)):gb331 ≠ gb332));have n6_:=Aside0.mk ((by rw [hg];exact Nat.ne_of_gt (blk_lt (g:=gb331) (o:=.cells #[.int .i64 a0_0,.slice A0_1 l0_1.length c0_1] 30 (0,0)) (by exact BK331.out)):gb332 ≠ gb331));clear BK331;clear HB;have BK331:=n0_;have HB:=n1_;have BK332:=n2_;have GW332:=n3_;have GE332:=n4_;have NB331_332:=n5_;have NB332_331:=n6_;clear n0_ n1_ n2_ n3_ n4_ n5_ n6_;clear hb hbox hg;have hnb10:=NB332_331.out;have hnc10:=NB331_332.out;have hcz11_0:w9.cell? ⟨gb332,0,none⟩=some (.bool a1_0):=(blk_cell BK332.out 0).trans rfl;have hcz11_1:w9.cell? ⟨gb332,1,none⟩=some (.slice A1_1 l1_1.length c1_1):=(blk_cell BK332.out 1).trans rfl;have hcz11_2:w9.cell? ⟨gb332,2,none⟩=some (.slice A1_2 l1_2.length c1_2):=(blk_cell BK332.out 2).trans rfl;have hfz11_0:=blk_frozen BK332.out 0;have hfz11_1:=blk_frozen BK332.out 1;have hfz11_2:=blk_frozen BK332.out 2;have p333:0≤(a2:Int):=of_decide_eq_true (by first|(with_reducible assumption)|assumption);have q333:a2<(l1_1.length:Int):=of_decide_eq_true (by first|(with_reducible assumption)|assumption);obtain ⟨ad333,e333,hx333_0,hx333_1,hx333_2,hx333_3,hx333_4⟩:=at_T50 HR1_1.out a2 p333 q333;cases e333;replace hx333_0:=(HB.out.cell (World.block_lt_of_cell? w _ hx333_0)).trans hx333_0;replace hx333_1:=(HB.out.cell (World.block_lt_of_cell? w _ hx333_1)).trans hx333_1;replace hx333_2:=(HB.out.cell (World.block_lt_of_cell? w _ hx333_2)).trans hx333_2;replace hx333_3:=(HB.out.cell (World.block_lt_of_cell? w _ hx333_3)).trans hx333_3;replace hx333_4:=(HB.out.cell (World.block_lt_of_cell? w _ hx333_4)).trans hx333_4;replace p333:=eq_true p333;replace q333:=eq_true q333)|((with_reducible refine gate_dst (N:=7) rfl ?_);refine box_event ?hg (N:=7) ?hd (cs:=#[.int .i64 0,.int .i64 0,.bool false,.bool false,.int .i64 0]) (t:=50) ?hr ?_;(case hd=>rfl);(case hg=>rfl);(case hr=>first|(go_simp;done)|(go_simp;rfl));intro gb334 hg w12 hbox hb;have n0_:=Aside0.mk (blk_below (g:=gb331) (o:=.cells #[.int .i64 a0_0,.slice A0_1 l0_1.length c0_1] 30 (0,0)) (by exact BK331.out) hb);have n1_:=Aside0.mk (blk_below (g:=gb332) (o:=.cells #[.bool a1_0,.slice (some ad333) l1_1.length c1_1,.slice A1_2 l1_2.length c1_2] 46 (0,0)) (by exact BK332.out) hb);have n2_:=Aside0.mk (below_step (by exact HB.out) hb);have n3_:=Aside0.mk (hbox);have n4_:=Aside0.mk ((by rw [hg];exact (below_size (by exact HB.out)):w.heap.size≤gb334));have n5_:=Aside0.mk ((by rw [hg];exact (below_size (by exact HB.out)):w.heap.size≤gb334));have n6_:=Aside0.mk ((by rw [hg];exact Nat.ne_of_lt (blk_lt (g:=gb331) (o:=.cells #[.int .i64 a0_0,.slice A0_1 l0_1.length c0_1] 30 (0,0)) (by exact BK331.out)):gb331 ≠ gb334));have n7_:=Aside0.mk ((by rw [hg];exact Nat.ne_of_gt (blk_lt (g:=gb331) (o:=.cells #[.int .i64 a0_0,.slice A0_1 l0_1.length c0_1] 30 (0,0)) (by exact BK331.out)):gb334 ≠ gb331));have n8_:=Aside0.mk ((by rw [hg];exact Nat.ne_of_lt (blk_lt (g:=gb332) (o:=.cells #[.bool a1_0,.slice (some ad333) l1_1.length c1_1,.slice A1_2 l1_2.length c1_2] 46 (0,0)) (by (with_reducible repeat (first|refine blk_drewN ?_ _|refine blk_drew ?_|refine blk_alloc ?_ _));exact BK332.out)):gb332 ≠ gb334));have n9_:=Aside0.mk ((by rw [hg];exact Nat.ne_of_gt (blk_lt (g:=gb332) (o:=.cells #[.bool a1_0,.slice (some ad333) l1_1.length c1_1,.slice A1_2 l1_2.length c1_2] 46 (0,0)) (by (with_reducible repeat (first|refine blk_drewN ?_ _|refine blk_drew ?_|refine blk_alloc ?_ _));exact BK332.out)):gb334 ≠ gb332));clear BK331;clear BK332;clear HB;have BK331:=n0_;have BK332:=n1_;have HB:=n2_;have BK334:=n3_;have GW334:=n4_;have GE334:=n5_;have NB331_334:=n6_;have NB334_331:=n7_;have NB332_334:=n8_;have NB334_332:=n9_;clear n0_ n1_ n2_ n3_ n4_ n5_ n6_ n7_ n8_ n9_;clear hb hbox hg;have hnb13:=NB334_331.out;have hnc13:=NB331_334.out;have hnb14:=NB334_332.out;have hnc14:=NB332_334.out;have hcz15_0:w12.cell? ⟨gb334,0,none⟩=some (.int .i64 0):=(blk_cell BK334.out 0).trans rfl;have hcz15_1:w12.cell? ⟨gb334,1,none⟩=some (.int .i64 0):=(blk_cell BK334.out 1).trans rfl;have hcz15_2:w12.cell? ⟨gb334,2,none⟩=some (.bool false):=(blk_cell BK334.out 2).trans rfl;have hcz15_3:w12.cell? ⟨gb334,3,none⟩=some (.bool false):=(blk_cell BK334.out 3).trans rfl;have hcz15_4:w12.cell? ⟨gb334,4,none⟩=some (.int .i64 0):=(blk_cell BK334.out 4).trans rfl;have hfz15_0:=blk_frozen BK334.out 0;have hfz15_1:=blk_frozen BK334.out 1;have hfz15_2:=blk_frozen BK334.out 2;have hfz15_3:=blk_frozen BK334.out 3;have hfz15_4:=blk_frozen BK334.out 4;have hcz16_0:w12.cell? ⟨gb331,0,none⟩=some (.int .i64 a0_0):=(blk_cell BK331.out 0).trans rfl;have hcz16_1:w12.cell? ⟨gb331,1,none⟩=some (.slice A0_1 l0_1.length c0_1):=(blk_cell BK331.out 1).trans rfl;have hfz16_0:=blk_frozen BK331.out 0;have hfz16_1:=blk_frozen BK331.out 1;have hcz17_0:w12.cell? ⟨gb332,0,none⟩=some (.bool a1_0):=(blk_cell BK332.out 0).trans rfl;have hcz17_1:w12.cell? ⟨gb332,1,none⟩=some (.slice (some ad333) l1_1.length c1_1):=(blk_cell BK332.out 1).trans rfl;have hcz17_2:w12.cell? ⟨gb332,2,none⟩=some (.slice A1_2 l1_2.length c1_2):=(blk_cell BK332.out 2).trans rfl;have hfz17_0:=blk_frozen BK332.out 0;have hfz17_1:=blk_frozen BK332.out 1;have hfz17_2:=blk_frozen BK332.out 2)|((with_reducible refine gate_callee (f:=98) rfl ?_);refine goesL_ (some 17) rfl rfl Try.func98 (by kernel_rfl) rfl #[.agg #[.int .i64 a0_0,.slice A0_1 l0_1.length c0_1],.agg #[.bool a1_0,.slice (some ad333) l1_1.length c1_1,.slice A1_2 l1_2.length c1_2],.int .i64 a2] rfl (by (try simp only [List.map_toArray,List.map_cons,List.map_nil]);first|done|rfl|(simp only [List.length_drop,List.length_take];rfl)) ?_;(with_reducible refine (impl_dead.calls k a0_0 _ _ l0_1 a1_0 _ _ l1_1 _ _ l1_2 a2 true _ ?side1 ?side2 ?side3 ?side4 ?side5 ?side6 A6.out).mono ?_);(case side1=>exact Kd.C_below HR0_1.out (by repeat (first|(with_reducible first|exact HB.out|apply below_alloc|apply pw_below_drewN|apply below_drew1|refine below_set ?_ GE331.out|refine below_set ?_ GE332.out|refine below_set ?_ GE334.out)|exact HB.out)));(case side2=>exact HC0_1.out);(case side3=>exact Kd.C_below HR1_1.out (by repeat (first|(with_reducible first|exact HB.out|apply below_alloc|apply pw_below_drewN|apply below_drew1|refine below_set ?_ GE331.out|refine below_set ?_ GE332.out|refine below_set ?_ GE334.out)|exact HB.out)));(case side4=>exact HC1_1.out);(case side5=>exact Kd.C_below HR1_2.out (by repeat (first|(with_reducible first|exact HB.out|apply below_alloc|apply pw_below_drewN|apply below_drew1|refine below_set ?_ GE331.out|refine below_set ?_ GE332.out|refine below_set ?_ GE334.out)|exact HB.out)));(case side6=>exact HC1_2.out);rintro e w18 ⟨rfl,hb⟩;refine ⟨_,rfl,?_⟩;have n0_:=Aside0.mk (blk_below (g:=gb331) (o:=.cells #[.int .i64 a0_0,.slice A0_1 l0_1.length c0_1] 30 (0,0)) (by (with_reducible repeat (first|refine blk_drewN ?_ _|refine blk_drew ?_|refine blk_alloc ?_ _));refine blk_far ?_ NB331_334.out _;(with_reducible repeat (first|refine blk_drewN ?_ _|refine blk_drew ?_|refine blk_alloc ?_ _));refine blk_far ?_ NB331_334.out _;(with_reducible repeat (first|refine blk_drewN ?_ _|refine blk_drew ?_|refine blk_alloc ?_ _));refine blk_far ?_ NB331_334.out _;(with_reducible repeat (first|refine blk_drewN ?_ _|refine blk_drew ?_|refine blk_alloc ?_ _));refine blk_far ?_ NB331_334.out _;(with_reducible repeat (first|refine blk_drewN ?_ _|refine blk_drew ?_|refine blk_alloc ?_ _));refine blk_far ?_ NB331_334.out _;(with_reducible repeat (first|refine blk_drewN ?_ _|refine blk_drew ?_|refine blk_alloc ?_ _));exact BK331.out) hb);have n1_:=Aside0.mk (blk_below (g:=gb332) (o:=.cells #[.bool a1_0,.slice (some ad333) l1_1.length c1_1,.slice A1_2 l1_2.length c1_2] 46 (0,0)) (by (with_reducible repeat (first|refine blk_drewN ?_ _|refine blk_drew ?_|refine blk_alloc ?_ _));refine blk_far ?_ NB332_334.out _;(with_reducible repeat (first|refine blk_drewN ?_ _|refine blk_drew ?_|refine blk_alloc ?_ _));refine blk_far ?_ NB332_334.out _;(with_reducible repeat (first|refine blk_drewN ?_ _|refine blk_drew ?_|refine blk_alloc ?_ _));refine blk_far ?_ NB332_334.out _;(with_reducible repeat (first|refine blk_drewN ?_ _|refine blk_drew ?_|refine blk_alloc ?_ _));refine blk_far ?_ NB332_334.out _;(with_reducible repeat (first|refine blk_drewN ?_ _|refine blk_drew ?_|refine blk_alloc ?_ _));refine blk_far ?_ NB332_334.out _;(with_reducible repeat (first|refine blk_drewN ?_ _|refine blk_drew ?_|refine blk_alloc ?_ _));exact BK332.out) hb);have n2_:=Aside0.mk (blk_below (g:=gb334) (o:=.cells #[.int .i64 ((rd_T50 l1_1 a2).f0),.int .i64 ((rd_T50 l1_1 a2).f1),.bool ((rd_T50 l1_1 a2).f2),.bool ((rd_T50 l1_1 a2).f3),.int .i64 ((rd_T50 l1_1 a2).f4)] 50 (0,0)) (by (with_reducible repeat (first|refine blk_drewN ?_ _|refine blk_drew ?_|refine blk_alloc ?_ _));refine blk_put (cs:=#[.int .i64 ((rd_T50 l1_1 a2).f0),.int .i64 ((rd_T50 l1_1 a2).f1),.bool ((rd_T50 l1_1 a2).f2),.bool ((rd_T50 l1_1 a2).f3),.int .i64 0]) ?_ 4 _ rfl;(with_reducible repeat (first|refine blk_drewN ?_ _|refine blk_drew ?_|refine blk_alloc ?_ _));refine blk_put (cs:=#[.int .i64 ((rd_T50 l1_1 a2).f0),.int .i64 ((rd_T50 l1_1 a2).f1),.bool ((rd_T50 l1_1 a2).f2),.bool false,.int .i64 0]) ?_ 3 _ rfl;(with_reducible repeat (first|refine blk_drewN ?_ _|refine blk_drew ?_|refine blk_alloc ?_ _));refine blk_put (cs:=#[.int .i64 ((rd_T50 l1_1 a2).f0),.int .i64 ((rd_T50 l1_1 a2).f1),.bool false,.bool false,.int .i64 0]) ?_ 2 _ rfl;(with_reducible repeat (first|refine blk_drewN ?_ _|refine blk_drew ?_|refine blk_alloc ?_ _));refine blk_put (cs:=#[.int .i64 ((rd_T50 l1_1 a2).f0),.int .i64 0,.bool false,.bool false,.int .i64 0]) ?_ 1 _ rfl;(with_reducible repeat (first|refine blk_drewN ?_ _|refine blk_drew ?_|refine blk_alloc ?_ _));refine blk_put (cs:=#[.int .i64 0,.int .i64 0,.bool false,.bool false,.int .i64 0]) ?_ 0 _ rfl;(with_reducible repeat (first|refine blk_drewN ?_ _|refine blk_drew ?_|refine blk_alloc ?_ _));exact BK334.out) hb);have n3_:=Aside0.mk (below_step (by repeat (first|(with_reducible first|exact HB.out|apply below_alloc|apply pw_below_drewN|apply below_drew1|refine below_set ?_ GE331.out|refine below_set ?_ GE332.out|refine below_set ?_ GE334.out)|exact HB.out)) hb);clear BK331;clear BK332;clear BK334;clear HB;have BK331:=n0_;have BK332:=n1_;have BK334:=n2_;have HB:=n3_;clear n0_ n1_ n2_ n3_;(try clear hb);(try clear hb2);(try clear hk);(try clear hi)))
    go_ret
    exact ⟨by first|rfl|(simp [errW_none,errW_some] <;> rfl)|(simp [*,errW_none,errW_some] <;> rfl),by exact HB.out⟩
   replace c7:=Bool.eq_false_iff.mpr c7
   subst c7
   have H1:(if (rd_T50 l1_1 a2).f2=true then (impl_told.j0 k true ((rd_T50 l1_1 a2).f0) ((rd_T50 l1_1 a2).f1) ((rd_T50 l1_1 a2).f2) ((rd_T50 l1_1 a2).f3) ((rd_T50 l1_1 a2).f4)) else (if ((rd_T50 l1_1 a2).f1)=0 then (impl_told.j0 k false ((rd_T50 l1_1 a2).f0) ((rd_T50 l1_1 a2).f1) ((rd_T50 l1_1 a2).f2) ((rd_T50 l1_1 a2).f3) ((rd_T50 l1_1 a2).f4)) else (impl_told.j0 k (!((rd_T50 l1_1 a2).f3)) ((rd_T50 l1_1 a2).f0) ((rd_T50 l1_1 a2).f1) ((rd_T50 l1_1 a2).f2) ((rd_T50 l1_1 a2).f3) ((rd_T50 l1_1 a2).f4))))=some r:=by rw [if_neg (show ¬ (false=true) by decide)] at H;exact H
   clear H
   have H:=H1
   clear H1
   have HC19:=Aside0.mk H
   clear H
   go_enter Try.func97,Try.ntmps97
   go_upto_region 4 with (first|((with_reducible refine gate_dst (N:=3) rfl ?_);refine box_event ?hg (N:=3) ?hd (cs:=#[.int .i64 a0_0,.slice A0_1 l0_1.length c0_1]) (t:=30) ?hr ?_;(case hd=>rfl);(case hg=>rfl);(case hr=>first|(go_simp;done)|(go_simp;rfl));intro gb331 hg w20 hbox hb;have n0_:=Aside0.mk (below_step (by exact HB.out) hb);have n1_:=Aside0.mk (hbox);have n2_:=Aside0.mk ((by rw [hg];exact (below_size (by exact HB.out)):w.heap.size≤gb331));have n3_:=Aside0.mk ((by rw [hg];exact (below_size (by exact HB.out)):w.heap.size≤gb331));clear HB;have HB:=n0_;have BK331:=n1_;have GW331:=n2_;have GE331:=n3_;clear n0_ n1_ n2_ n3_;clear hb hbox hg)|((with_reducible refine gate_dst (N:=4) rfl ?_);refine box_event ?hg (N:=4) ?hd (cs:=#[.bool a1_0,.slice A1_1 l1_1.length c1_1,.slice A1_2 l1_2.length c1_2]) (t:=46) ?hr ?_;(case hd=>rfl);(case hg=>rfl);(case hr=>first|(go_simp;done)|(go_simp;rfl));intro gb332 hg w21 hbox hb;have n0_:=Aside0.mk (blk_below (g:=gb331) (o:=.cells #[.int .i64 a0_0,.slice A0_1 l0_1.length c0_1] 30 (0,0)) (by exact BK331.out) hb);have n1_:=Aside0.mk (below_step (by exact HB.out) hb);have n2_:=Aside0.mk (hbox);have n3_:=Aside0.mk ((by rw [hg];exact (below_size (by exact HB.out)):w.heap.size≤gb332));have n4_:=Aside0.mk ((by rw [hg];exact (below_size (by exact HB.out)):w.heap.size≤gb332));have n5_:=Aside0.mk ((by rw [hg];exact Nat.ne_of_lt (blk_lt (g:=gb331) (o:=.cells #[.int .i64 a0_0,.slice A0_1 l0_1.length c0_1] 30 (0,0)) (by exact BK331.out)):gb331 ≠ gb332));have n6_:=Aside0.mk ((by rw [hg];exact Nat.ne_of_gt (blk_lt (g:=gb331) (o:=.cells #[.int .i64 a0_0,.slice A0_1 l0_1.length c0_1] 30 (0,0)) (by exact BK331.out)):gb332 ≠ gb331));clear BK331;clear HB;have BK331:=n0_;have HB:=n1_;have BK332:=n2_;have GW332:=n3_;have GE332:=n4_;have NB331_332:=n5_;have NB332_331:=n6_;clear n0_ n1_ n2_ n3_ n4_ n5_ n6_;clear hb hbox hg;have hnb22:=NB332_331.out;have hnc22:=NB331_332.out;have hcz23_0:w21.cell? ⟨gb332,0,none⟩=some (.bool a1_0):=(blk_cell BK332.out 0).trans rfl;have hcz23_1:w21.cell? ⟨gb332,1,none⟩=some (.slice A1_1 l1_1.length c1_1):=(blk_cell BK332.out 1).trans rfl;have hcz23_2:w21.cell? ⟨gb332,2,none⟩=some (.slice A1_2 l1_2.length c1_2):=(blk_cell BK332.out 2).trans rfl;have hfz23_0:=blk_frozen BK332.out 0;have hfz23_1:=blk_frozen BK332.out 1;have hfz23_2:=blk_frozen BK332.out 2;have p333:0≤(a2:Int):=of_decide_eq_true (by first|(with_reducible assumption)|assumption);have q333:a2<(l1_1.length:Int):=of_decide_eq_true (by first|(with_reducible assumption)|assumption);obtain ⟨ad333,e333,hx333_0,hx333_1,hx333_2,hx333_3,hx333_4⟩:=at_T50 HR1_1.out a2 p333 q333;cases e333;replace hx333_0:=(HB.out.cell (World.block_lt_of_cell? w _ hx333_0)).trans hx333_0;replace hx333_1:=(HB.out.cell (World.block_lt_of_cell? w _ hx333_1)).trans hx333_1;replace hx333_2:=(HB.out.cell (World.block_lt_of_cell? w _ hx333_2)).trans hx333_2;replace hx333_3:=(HB.out.cell (World.block_lt_of_cell? w _ hx333_3)).trans hx333_3;replace hx333_4:=(HB.out.cell (World.block_lt_of_cell? w _ hx333_4)).trans hx333_4;replace p333:=eq_true p333;replace q333:=eq_true q333)|((with_reducible refine gate_dst (N:=7) rfl ?_);refine box_event ?hg (N:=7) ?hd (cs:=#[.int .i64 0,.int .i64 0,.bool false,.bool false,.int .i64 0]) (t:=50) ?hr ?_;(case hd=>rfl);(case hg=>rfl);(case hr=>first|(go_simp;done)|(go_simp;rfl));intro gb334 hg w24 hbox hb;have n0_:=Aside0.mk (blk_below (g:=gb331) (o:=.cells #[.int .i64 a0_0,.slice A0_1 l0_1.length c0_1] 30 (0,0)) (by exact BK331.out) hb);have n1_:=Aside0.mk (blk_below (g:=gb332) (o:=.cells #[.bool a1_0,.slice (some ad333) l1_1.length c1_1,.slice A1_2 l1_2.length c1_2] 46 (0,0)) (by exact BK332.out) hb);have n2_:=Aside0.mk (below_step (by exact HB.out) hb);have n3_:=Aside0.mk (hbox);have n4_:=Aside0.mk ((by rw [hg];exact (below_size (by exact HB.out)):w.heap.size≤gb334));have n5_:=Aside0.mk ((by rw [hg];exact (below_size (by exact HB.out)):w.heap.size≤gb334));have n6_:=Aside0.mk ((by rw [hg];exact Nat.ne_of_lt (blk_lt (g:=gb331) (o:=.cells #[.int .i64 a0_0,.slice A0_1 l0_1.length c0_1] 30 (0,0)) (by exact BK331.out)):gb331 ≠ gb334));have n7_:=Aside0.mk ((by rw [hg];exact Nat.ne_of_gt (blk_lt (g:=gb331) (o:=.cells #[.int .i64 a0_0,.slice A0_1 l0_1.length c0_1] 30 (0,0)) (by exact BK331.out)):gb334 ≠ gb331));have n8_:=Aside0.mk ((by rw [hg];exact Nat.ne_of_lt (blk_lt (g:=gb332) (o:=.cells #[.bool a1_0,.slice (some ad333) l1_1.length c1_1,.slice A1_2 l1_2.length c1_2] 46 (0,0)) (by (with_reducible repeat (first|refine blk_drewN ?_ _|refine blk_drew ?_|refine blk_alloc ?_ _));exact BK332.out)):gb332 ≠ gb334));have n9_:=Aside0.mk ((by rw [hg];exact Nat.ne_of_gt (blk_lt (g:=gb332) (o:=.cells #[.bool a1_0,.slice (some ad333) l1_1.length c1_1,.slice A1_2 l1_2.length c1_2] 46 (0,0)) (by (with_reducible repeat (first|refine blk_drewN ?_ _|refine blk_drew ?_|refine blk_alloc ?_ _));exact BK332.out)):gb334 ≠ gb332));clear BK331;clear BK332;clear HB;have BK331:=n0_;have BK332:=n1_;have HB:=n2_;have BK334:=n3_;have GW334:=n4_;have GE334:=n5_;have NB331_334:=n6_;have NB334_331:=n7_;have NB332_334:=n8_;have NB334_332:=n9_;clear n0_ n1_ n2_ n3_ n4_ n5_ n6_ n7_ n8_ n9_;clear hb hbox hg;have hnb25:=NB334_331.out;have hnc25:=NB331_334.out;have hnb26:=NB334_332.out;have hnc26:=NB332_334.out;have hcz27_0:w24.cell? ⟨gb334,0,none⟩=some (.int .i64 0):=(blk_cell BK334.out 0).trans rfl;have hcz27_1:w24.cell? ⟨gb334,1,none⟩=some (.int .i64 0):=(blk_cell BK334.out 1).trans rfl;have hcz27_2:w24.cell? ⟨gb334,2,none⟩=some (.bool false):=(blk_cell BK334.out 2).trans rfl;have hcz27_3:w24.cell? ⟨gb334,3,none⟩=some (.bool false):=(blk_cell BK334.out 3).trans rfl;have hcz27_4:w24.cell? ⟨gb334,4,none⟩=some (.int .i64 0):=(blk_cell BK334.out 4).trans rfl;have hfz27_0:=blk_frozen BK334.out 0;have hfz27_1:=blk_frozen BK334.out 1;have hfz27_2:=blk_frozen BK334.out 2;have hfz27_3:=blk_frozen BK334.out 3;have hfz27_4:=blk_frozen BK334.out 4;have hcz28_0:w24.cell? ⟨gb331,0,none⟩=some (.int .i64 a0_0):=(blk_cell BK331.out 0).trans rfl;have hcz28_1:w24.cell? ⟨gb331,1,none⟩=some (.slice A0_1 l0_1.length c0_1):=(blk_cell BK331.out 1).trans rfl;have hfz28_0:=blk_frozen BK331.out 0;have hfz28_1:=blk_frozen BK331.out 1;have hcz29_0:w24.cell? ⟨gb332,0,none⟩=some (.bool a1_0):=(blk_cell BK332.out 0).trans rfl;have hcz29_1:w24.cell? ⟨gb332,1,none⟩=some (.slice (some ad333) l1_1.length c1_1):=(blk_cell BK332.out 1).trans rfl;have hcz29_2:w24.cell? ⟨gb332,2,none⟩=some (.slice A1_2 l1_2.length c1_2):=(blk_cell BK332.out 2).trans rfl;have hfz29_0:=blk_frozen BK332.out 0;have hfz29_1:=blk_frozen BK332.out 1;have hfz29_2:=blk_frozen BK332.out 2)|((with_reducible refine gate_callee (f:=98) rfl ?_);refine goesL_ (some 17) rfl rfl Try.func98 (by kernel_rfl) rfl #[.agg #[.int .i64 a0_0,.slice A0_1 l0_1.length c0_1],.agg #[.bool a1_0,.slice (some ad333) l1_1.length c1_1,.slice A1_2 l1_2.length c1_2],.int .i64 a2] rfl (by (try simp only [List.map_toArray,List.map_cons,List.map_nil]);first|done|rfl|(simp only [List.length_drop,List.length_take];rfl)) ?_;(with_reducible refine (impl_dead.calls k a0_0 _ _ l0_1 a1_0 _ _ l1_1 _ _ l1_2 a2 false _ ?side1 ?side2 ?side3 ?side4 ?side5 ?side6 A6.out).mono ?_);(case side1=>exact Kd.C_below HR0_1.out (by repeat (first|(with_reducible first|exact HB.out|apply below_alloc|apply pw_below_drewN|apply below_drew1|refine below_set ?_ GE331.out|refine below_set ?_ GE332.out|refine below_set ?_ GE334.out)|exact HB.out)));(case side2=>exact HC0_1.out);(case side3=>exact Kd.C_below HR1_1.out (by repeat (first|(with_reducible first|exact HB.out|apply below_alloc|apply pw_below_drewN|apply below_drew1|refine below_set ?_ GE331.out|refine below_set ?_ GE332.out|refine below_set ?_ GE334.out)|exact HB.out)));(case side4=>exact HC1_1.out);(case side5=>exact Kd.C_below HR1_2.out (by repeat (first|(with_reducible first|exact HB.out|apply below_alloc|apply pw_below_drewN|apply below_drew1|refine below_set ?_ GE331.out|refine below_set ?_ GE332.out|refine below_set ?_ GE334.out)|exact HB.out)));(case side6=>exact HC1_2.out);rintro e w30 ⟨rfl,hb⟩;refine ⟨_,rfl,?_⟩;have n0_:=Aside0.mk (blk_below (g:=gb331) (o:=.cells #[.int .i64 a0_0,.slice A0_1 l0_1.length c0_1] 30 (0,0)) (by (with_reducible repeat (first|refine blk_drewN ?_ _|refine blk_drew ?_|refine blk_alloc ?_ _));refine blk_far ?_ NB331_334.out _;(with_reducible repeat (first|refine blk_drewN ?_ _|refine blk_drew ?_|refine blk_alloc ?_ _));refine blk_far ?_ NB331_334.out _;(with_reducible repeat (first|refine blk_drewN ?_ _|refine blk_drew ?_|refine blk_alloc ?_ _));refine blk_far ?_ NB331_334.out _;(with_reducible repeat (first|refine blk_drewN ?_ _|refine blk_drew ?_|refine blk_alloc ?_ _));refine blk_far ?_ NB331_334.out _;(with_reducible repeat (first|refine blk_drewN ?_ _|refine blk_drew ?_|refine blk_alloc ?_ _));refine blk_far ?_ NB331_334.out _;(with_reducible repeat (first|refine blk_drewN ?_ _|refine blk_drew ?_|refine blk_alloc ?_ _));exact BK331.out) hb);have n1_:=Aside0.mk (blk_below (g:=gb332) (o:=.cells #[.bool a1_0,.slice (some ad333) l1_1.length c1_1,.slice A1_2 l1_2.length c1_2] 46 (0,0)) (by (with_reducible repeat (first|refine blk_drewN ?_ _|refine blk_drew ?_|refine blk_alloc ?_ _));refine blk_far ?_ NB332_334.out _;(with_reducible repeat (first|refine blk_drewN ?_ _|refine blk_drew ?_|refine blk_alloc ?_ _));refine blk_far ?_ NB332_334.out _;(with_reducible repeat (first|refine blk_drewN ?_ _|refine blk_drew ?_|refine blk_alloc ?_ _));refine blk_far ?_ NB332_334.out _;(with_reducible repeat (first|refine blk_drewN ?_ _|refine blk_drew ?_|refine blk_alloc ?_ _));refine blk_far ?_ NB332_334.out _;(with_reducible repeat (first|refine blk_drewN ?_ _|refine blk_drew ?_|refine blk_alloc ?_ _));refine blk_far ?_ NB332_334.out _;(with_reducible repeat (first|refine blk_drewN ?_ _|refine blk_drew ?_|refine blk_alloc ?_ _));exact BK332.out) hb);have n2_:=Aside0.mk (blk_below (g:=gb334) (o:=.cells #[.int .i64 ((rd_T50 l1_1 a2).f0),.int .i64 ((rd_T50 l1_1 a2).f1),.bool ((rd_T50 l1_1 a2).f2),.bool ((rd_T50 l1_1 a2).f3),.int .i64 ((rd_T50 l1_1 a2).f4)] 50 (0,0)) (by (with_reducible repeat (first|refine blk_drewN ?_ _|refine blk_drew ?_|refine blk_alloc ?_ _));refine blk_put (cs:=#[.int .i64 ((rd_T50 l1_1 a2).f0),.int .i64 ((rd_T50 l1_1 a2).f1),.bool ((rd_T50 l1_1 a2).f2),.bool ((rd_T50 l1_1 a2).f3),.int .i64 0]) ?_ 4 _ rfl;(with_reducible repeat (first|refine blk_drewN ?_ _|refine blk_drew ?_|refine blk_alloc ?_ _));refine blk_put (cs:=#[.int .i64 ((rd_T50 l1_1 a2).f0),.int .i64 ((rd_T50 l1_1 a2).f1),.bool ((rd_T50 l1_1 a2).f2),.bool false,.int .i64 0]) ?_ 3 _ rfl;(with_reducible repeat (first|refine blk_drewN ?_ _|refine blk_drew ?_|refine blk_alloc ?_ _));refine blk_put (cs:=#[.int .i64 ((rd_T50 l1_1 a2).f0),.int .i64 ((rd_T50 l1_1 a2).f1),.bool false,.bool false,.int .i64 0]) ?_ 2 _ rfl;(with_reducible repeat (first|refine blk_drewN ?_ _|refine blk_drew ?_|refine blk_alloc ?_ _));refine blk_put (cs:=#[.int .i64 ((rd_T50 l1_1 a2).f0),.int .i64 0,.bool false,.bool false,.int .i64 0]) ?_ 1 _ rfl;(with_reducible repeat (first|refine blk_drewN ?_ _|refine blk_drew ?_|refine blk_alloc ?_ _));refine blk_put (cs:=#[.int .i64 0,.int .i64 0,.bool false,.bool false,.int .i64 0]) ?_ 0 _ rfl;(with_reducible repeat (first|refine blk_drewN ?_ _|refine blk_drew ?_|refine blk_alloc ?_ _));exact BK334.out) hb);have n3_:=Aside0.mk (below_step (by repeat (first|(with_reducible first|exact HB.out|apply below_alloc|apply pw_below_drewN|apply below_drew1|refine below_set ?_ GE331.out|refine below_set ?_ GE332.out|refine below_set ?_ GE334.out)|exact HB.out)) hb);clear BK331;clear BK332;clear BK334;clear HB;have BK331:=n0_;have BK332:=n1_;have BK334:=n2_;have HB:=n3_;clear n0_ n1_ n2_ n3_;(try clear hb);(try clear hb2);(try clear hk);(try clear hi)))
   (try simp only [Act.put,List.setIfInBounds_toArray,List.set_cons_zero,List.set_cons_succ])
   go_cut [18] (fun v18 wc=>∃ (kq:Nat) (x18_18:Bool),v18=.bool x18_18∧Aside0 (impl_told.j0 kq x18_18 ((rd_T50 l1_1 a2).f0) ((rd_T50 l1_1 a2).f1) ((rd_T50 l1_1 a2).f2) ((rd_T50 l1_1 a2).f3) ((rd_T50 l1_1 a2).f4)=some r)∧Aside0 (kq≤k)∧Aside0 (wc.heap[gb331]?=some (.cells #[.int .i64 a0_0,(.slice A0_1 l0_1.length c0_1)] 30 (0,0)))∧Aside0 (wc.heap[gb332]?=some (.cells #[.bool a1_0,(.slice (some ad333) l1_1.length c1_1),(.slice A1_2 l1_2.length c1_2)] 46 (0,0)))∧Aside0 (wc.heap[gb334]?=some (.cells #[.int .i64 ((rd_T50 l1_1 a2).f0),.int .i64 ((rd_T50 l1_1 a2).f1),.bool ((rd_T50 l1_1 a2).f2),.bool ((rd_T50 l1_1 a2).f3),.int .i64 ((rd_T50 l1_1 a2).f4)] 50 (0,0)))∧Aside0 (Below w.heap.size w wc))
   case first =>
    have H:=HC19.out
    clear HC19
    obtain ⟨bq31,hbq31⟩:∃ b_:Bool,b_=((rd_T50 l1_1 a2).f2):=⟨_,rfl⟩
    replace H:(if bq31=true then (impl_told.j0 k true ((rd_T50 l1_1 a2).f0) ((rd_T50 l1_1 a2).f1) bq31 ((rd_T50 l1_1 a2).f3) ((rd_T50 l1_1 a2).f4)) else (if ((rd_T50 l1_1 a2).f1)=0 then (impl_told.j0 k false ((rd_T50 l1_1 a2).f0) ((rd_T50 l1_1 a2).f1) bq31 ((rd_T50 l1_1 a2).f3) ((rd_T50 l1_1 a2).f4)) else (impl_told.j0 k (!((rd_T50 l1_1 a2).f3)) ((rd_T50 l1_1 a2).f0) ((rd_T50 l1_1 a2).f1) bq31 ((rd_T50 l1_1 a2).f3) ((rd_T50 l1_1 a2).f4))))=some r:=by rw [← hbq31] at H;exact H
    have Nbq31:=Aside0.mk hbq31
    clear hbq31
    (try rw [← Nbq31.out])
    by_cases c32:bq31=true
    ·subst c32
     have H1:(impl_told.j0 k true ((rd_T50 l1_1 a2).f0) ((rd_T50 l1_1 a2).f1) true ((rd_T50 l1_1 a2).f3) ((rd_T50 l1_1 a2).f4))=some r:=by rw [if_pos rfl] at H;exact H
     clear H
     have H:=H1
     clear H1
     have H':=Aside0.mk H
     clear H
     have hnb33:=NB334_331.out
     have hnc33:=NB331_334.out
     have hnb34:=NB334_332.out
     have hnc34:=NB332_334.out
     have hcz35_0:w30.cell? ⟨gb334,0,none⟩=some (.int .i64 ((rd_T50 l1_1 a2).f0)):=(blk_cell BK334.out 0).trans rfl
     have hcz35_1:w30.cell? ⟨gb334,1,none⟩=some (.int .i64 ((rd_T50 l1_1 a2).f1)):=(blk_cell BK334.out 1).trans rfl
     have hcz35_2:w30.cell? ⟨gb334,2,none⟩=some (.bool true):=(blk_cell BK334.out 2).trans (congrArg (fun b_=>some (Value.bool b_)) Nbq31.out.symm)
     have hcz35_3:w30.cell? ⟨gb334,3,none⟩=some (.bool ((rd_T50 l1_1 a2).f3)):=(blk_cell BK334.out 3).trans rfl
     have hcz35_4:w30.cell? ⟨gb334,4,none⟩=some (.int .i64 ((rd_T50 l1_1 a2).f4)):=(blk_cell BK334.out 4).trans rfl
     have hfz35_0:=blk_frozen BK334.out 0
     have hfz35_1:=blk_frozen BK334.out 1
     have hfz35_2:=blk_frozen BK334.out 2
     have hfz35_3:=blk_frozen BK334.out 3
     have hfz35_4:=blk_frozen BK334.out 4
     go_wp2
     go_meet
     case rel=>exact ⟨_,(true),(by first|rfl|(simp;done)|(simp [*];done)),(by first|exact H'|(rw [← Nbq31.out];exact H')),⟨by first|omega|exact Nat.le_refl _⟩,⟨by exact BK331.out⟩,⟨by exact BK332.out⟩,⟨by exact BK334.out⟩,⟨by exact HB.out⟩⟩
    replace c32:=Bool.eq_false_iff.mpr c32
    subst c32
    have H1:(if ((rd_T50 l1_1 a2).f1)=0 then (impl_told.j0 k false ((rd_T50 l1_1 a2).f0) ((rd_T50 l1_1 a2).f1) false ((rd_T50 l1_1 a2).f3) ((rd_T50 l1_1 a2).f4)) else (impl_told.j0 k (!((rd_T50 l1_1 a2).f3)) ((rd_T50 l1_1 a2).f0) ((rd_T50 l1_1 a2).f1) false ((rd_T50 l1_1 a2).f3) ((rd_T50 l1_1 a2).f4)))=some r:=by rw [if_neg (show ¬ (false=true) by decide)] at H;exact H
    clear H
    have H:=H1
    clear H1
    by_cases c36:((rd_T50 l1_1 a2).f1)=0
    ·rw [if_pos c36] at H
     have c36b0:(((rd_T50 l1_1 a2).f1)==0)=true:=beq_iff_eq.mpr c36
     have c36b1:(((rd_T50 l1_1 a2).f1) != 0)=false:=bne_eq_false_iff_eq.mpr c36
     clear c36
     have H':=Aside0.mk H
     clear H
     have hnb37:=NB334_331.out
     have hnc37:=NB331_334.out
     have hnb38:=NB334_332.out
     have hnc38:=NB332_334.out
     have hcz39_0:w30.cell? ⟨gb334,0,none⟩=some (.int .i64 ((rd_T50 l1_1 a2).f0)):=(blk_cell BK334.out 0).trans rfl
     have hcz39_1:w30.cell? ⟨gb334,1,none⟩=some (.int .i64 ((rd_T50 l1_1 a2).f1)):=(blk_cell BK334.out 1).trans rfl
     have hcz39_2:w30.cell? ⟨gb334,2,none⟩=some (.bool false):=(blk_cell BK334.out 2).trans (congrArg (fun b_=>some (Value.bool b_)) Nbq31.out.symm)
     have hcz39_3:w30.cell? ⟨gb334,3,none⟩=some (.bool ((rd_T50 l1_1 a2).f3)):=(blk_cell BK334.out 3).trans rfl
     have hcz39_4:w30.cell? ⟨gb334,4,none⟩=some (.int .i64 ((rd_T50 l1_1 a2).f4)):=(blk_cell BK334.out 4).trans rfl
     have hfz39_0:=blk_frozen BK334.out 0
     have hfz39_1:=blk_frozen BK334.out 1
     have hfz39_2:=blk_frozen BK334.out 2
     have hfz39_3:=blk_frozen BK334.out 3
     have hfz39_4:=blk_frozen BK334.out 4
     go_wp2
     go_meet
     case rel=>exact ⟨_,(false),(by first|rfl|(simp;done)|(simp [*];done)),(by first|exact H'|(rw [← Nbq31.out];exact H')),⟨by first|omega|exact Nat.le_refl _⟩,⟨by exact BK331.out⟩,⟨by exact BK332.out⟩,⟨by exact BK334.out⟩,⟨by exact HB.out⟩⟩
    rw [if_neg c36] at H
    have c36b0:(((rd_T50 l1_1 a2).f1)==0)=false:=beq_eq_false_iff_ne.mpr c36
    have c36b1:(((rd_T50 l1_1 a2).f1) != 0)=true:=bne_iff_ne.mpr c36
    have H':=Aside0.mk H
    clear H
    have hnb40:=NB334_331.out
    have hnc40:=NB331_334.out
    have hnb41:=NB334_332.out
    have hnc41:=NB332_334.out
    have hcz42_0:w30.cell? ⟨gb334,0,none⟩=some (.int .i64 ((rd_T50 l1_1 a2).f0)):=(blk_cell BK334.out 0).trans rfl
    have hcz42_1:w30.cell? ⟨gb334,1,none⟩=some (.int .i64 ((rd_T50 l1_1 a2).f1)):=(blk_cell BK334.out 1).trans rfl
    have hcz42_2:w30.cell? ⟨gb334,2,none⟩=some (.bool false):=(blk_cell BK334.out 2).trans (congrArg (fun b_=>some (Value.bool b_)) Nbq31.out.symm)
    have hcz42_3:w30.cell? ⟨gb334,3,none⟩=some (.bool ((rd_T50 l1_1 a2).f3)):=(blk_cell BK334.out 3).trans rfl
    have hcz42_4:w30.cell? ⟨gb334,4,none⟩=some (.int .i64 ((rd_T50 l1_1 a2).f4)):=(blk_cell BK334.out 4).trans rfl
    have hfz42_0:=blk_frozen BK334.out 0
    have hfz42_1:=blk_frozen BK334.out 1
    have hfz42_2:=blk_frozen BK334.out 2
    have hfz42_3:=blk_frozen BK334.out 3
    have hfz42_4:=blk_frozen BK334.out 4
    go_wp2
    go_meet
    case rel=>exact ⟨_,(!((rd_T50 l1_1 a2).f3)),(by first|rfl|(simp;done)|(simp [*];done)),(by first|exact H'|(rw [← Nbq31.out];exact H')),⟨by first|omega|exact Nat.le_refl _⟩,⟨by exact BK331.out⟩,⟨by exact BK332.out⟩,⟨by exact BK334.out⟩,⟨by exact HB.out⟩⟩
   case rest =>
    clear HC19
    try clear c1
    try clear c2
    try clear p2
    try clear c3
    try clear p3
    try clear q3
    try clear hx3
    try clear c4
    try clear c4b0
    try clear c5
    try clear c5b0
    try clear c7
    try clear c9
    try clear c10
    try clear c13
    try clear c14
    try clear c22
    try clear c25
    try clear c26
    try clear q31
    try clear c32
    try clear c33
    try clear p33
    try clear q33
    try clear hx33
    try clear c34
    try clear c36
    try clear c36b0
    try clear c36b1
    try clear c37
    try clear c38
    try clear c40
    try clear c41
    try clear hcz11_0
    try clear hcz11_1
    try clear hcz11_2
    try clear hcz15_0
    try clear hcz15_1
    try clear hcz15_2
    try clear hcz15_3
    try clear hcz15_4
    try clear hcz16_0
    try clear hcz16_1
    try clear hcz17_0
    try clear hcz17_1
    try clear hcz17_2
    try clear hcz23_0
    try clear hcz23_1
    try clear hcz23_2
    try clear hcz27_0
    try clear hcz27_1
    try clear hcz27_2
    try clear hcz27_3
    try clear hcz27_4
    try clear hcz28_0
    try clear hcz28_1
    try clear hcz29_0
    try clear hcz29_1
    try clear hcz29_2
    try clear hcz35_0
    try clear hcz35_1
    try clear hcz35_2
    try clear hcz35_3
    try clear hcz35_4
    try clear hcz39_0
    try clear hcz39_1
    try clear hcz39_2
    try clear hcz39_3
    try clear hcz39_4
    try clear hcz42_0
    try clear hcz42_1
    try clear hcz42_2
    try clear hcz42_3
    try clear hcz42_4
    try clear hfz11_0
    try clear hfz11_1
    try clear hfz11_2
    try clear hfz15_0
    try clear hfz15_1
    try clear hfz15_2
    try clear hfz15_3
    try clear hfz15_4
    try clear hfz16_0
    try clear hfz16_1
    try clear hfz17_0
    try clear hfz17_1
    try clear hfz17_2
    try clear hfz23_0
    try clear hfz23_1
    try clear hfz23_2
    try clear hfz27_0
    try clear hfz27_1
    try clear hfz27_2
    try clear hfz27_3
    try clear hfz27_4
    try clear hfz28_0
    try clear hfz28_1
    try clear hfz29_0
    try clear hfz29_1
    try clear hfz29_2
    try clear hfz35_0
    try clear hfz35_1
    try clear hfz35_2
    try clear hfz35_3
    try clear hfz35_4
    try clear hfz39_0
    try clear hfz39_1
    try clear hfz39_2
    try clear hfz39_3
    try clear hfz39_4
    try clear hfz42_0
    try clear hfz42_1
    try clear hfz42_2
    try clear hfz42_3
    try clear hfz42_4
    try clear hx333_0
    try clear hx333_1
    try clear hx333_2
    try clear hx333_3
    try clear hx333_4
    try clear p333
    try clear q333
    obtain ⟨kq,x18_18,rfl,HA,HJ18,BK331,BK332,BK334,HB⟩:=hcut
    cases kq with
    | zero=>exact absurd HA.out (by simp [impl_told.j0])
    | succ kj18 =>
     have H:=HA.out
     clear HA
     simp only [impl_told.j0] at H
     by_cases c43:x18_18=true
     ·subst c43
      have H1:(some 1)=some r:=by rw [if_pos rfl] at H;exact H
      clear H
      have H:=H1
      clear H1
      obtain rfl:=Option.some.inj H
      go_wp2
      go_ret
      exact ⟨by first|rfl|(simp [errW_none,errW_some] <;> rfl)|(simp [*,errW_none,errW_some] <;> rfl),by exact HB.out⟩
     replace c43:=Bool.eq_false_iff.mpr c43
     subst c43
     have H1:(if ((rd_T50 l1_1 a2).f3)=true then (some 2) else (some 0))=some r:=by rw [if_neg (show ¬ (false=true) by decide)] at H;exact H
     clear H
     have H:=H1
     clear H1
     by_cases c44:((rd_T50 l1_1 a2).f3)=true
     ·rw [if_pos c44] at H
      have c44b0:((rd_T50 l1_1 a2).f3)=true:=c44
      clear c44
      obtain rfl:=Option.some.inj H
      have hnb45:=NB334_331.out
      have hnc45:=NB331_334.out
      have hnb46:=NB334_332.out
      have hnc46:=NB332_334.out
      have hcz47_0:wc.cell? ⟨gb334,0,none⟩=some (.int .i64 ((rd_T50 l1_1 a2).f0)):=(blk_cell BK334.out 0).trans rfl
      have hcz47_1:wc.cell? ⟨gb334,1,none⟩=some (.int .i64 ((rd_T50 l1_1 a2).f1)):=(blk_cell BK334.out 1).trans rfl
      have hcz47_2:wc.cell? ⟨gb334,2,none⟩=some (.bool ((rd_T50 l1_1 a2).f2)):=(blk_cell BK334.out 2).trans rfl
      have hcz47_3:wc.cell? ⟨gb334,3,none⟩=some (.bool ((rd_T50 l1_1 a2).f3)):=(blk_cell BK334.out 3).trans rfl
      have hcz47_4:wc.cell? ⟨gb334,4,none⟩=some (.int .i64 ((rd_T50 l1_1 a2).f4)):=(blk_cell BK334.out 4).trans rfl
      have hfz47_0:=blk_frozen BK334.out 0
      have hfz47_1:=blk_frozen BK334.out 1
      have hfz47_2:=blk_frozen BK334.out 2
      have hfz47_3:=blk_frozen BK334.out 3
      have hfz47_4:=blk_frozen BK334.out 4
      go_wp2
      go_ret
      exact ⟨by first|rfl|(simp [errW_none,errW_some] <;> rfl)|(simp [*,errW_none,errW_some] <;> rfl),by exact HB.out⟩
     rw [if_neg c44] at H
     have c44b0:((rd_T50 l1_1 a2).f3)=false:=by simpa using c44
     clear c44
     obtain rfl:=Option.some.inj H
     have hnb48:=NB334_331.out
     have hnc48:=NB331_334.out
     have hnb49:=NB334_332.out
     have hnc49:=NB332_334.out
     have hcz50_0:wc.cell? ⟨gb334,0,none⟩=some (.int .i64 ((rd_T50 l1_1 a2).f0)):=(blk_cell BK334.out 0).trans rfl
     have hcz50_1:wc.cell? ⟨gb334,1,none⟩=some (.int .i64 ((rd_T50 l1_1 a2).f1)):=(blk_cell BK334.out 1).trans rfl
     have hcz50_2:wc.cell? ⟨gb334,2,none⟩=some (.bool ((rd_T50 l1_1 a2).f2)):=(blk_cell BK334.out 2).trans rfl
     have hcz50_3:wc.cell? ⟨gb334,3,none⟩=some (.bool ((rd_T50 l1_1 a2).f3)):=(blk_cell BK334.out 3).trans rfl
     have hcz50_4:wc.cell? ⟨gb334,4,none⟩=some (.int .i64 ((rd_T50 l1_1 a2).f4)):=(blk_cell BK334.out 4).trans rfl
     have hfz50_0:=blk_frozen BK334.out 0
     have hfz50_1:=blk_frozen BK334.out 1
     have hfz50_2:=blk_frozen BK334.out 2
     have hfz50_3:=blk_frozen BK334.out 3
     have hfz50_4:=blk_frozen BK334.out 4
     go_wp2
     go_ret
     exact ⟨by first|rfl|(simp [errW_none,errW_some] <;> rfl)|(simp [*,errW_none,errW_some] <;> rfl),by exact HB.out⟩
  rw [if_neg c5] at H
  exact absurd H (by simp)
 rw [if_neg c4] at H
 exact absurd H (by simp)
end Go.Proofs.Ytpdnabhpkdchjaa.P
