/- The statement FnExactAnswerCardSaid holds of the given program, for every argument; there are no conditions. (Part 3 of 6.) -/
import Derived.Test.YtpdnabhpkdchjaaDoorBFnExactAnswer2
namespace Go.Proofs.YtpdnabhpkdchjaaDoor.P
open Go.RowKit Go.Proofs.YtpdnabhpkdchjaaDoorW.PrintWords Go.Proofs.YtpdnabhpkdchjaaDoorW.PrintLast Go.Proofs.YtpdnabhpkdchjaaDoorW.PrintMore
attribute [local go_sem] max2_int min2_int max_two min_two max_three min_three max_four min_four
set_option linter.unusedVariables false
set_option linter.unusedSimpArgs false
def spec_l4line.f (a0_0:Int) (a0_1:Int) (a0_2:Int):Option (ByteArray):=(spec_l4words.f).bind fun t120=>(if 0≤a0_0 then (if a0_0<(t120.length:Int) then (if (rdOf ByteArray.empty t120 a0_0).size+1≤9223372036854775807 then ((spec_l4decimal.f a0_1).bind fun t124=>(if ((rdOf ByteArray.empty t120 a0_0) ++ (⟨#[32]⟩:ByteArray)).size+t124.size≤9223372036854775807 then (if a0_2 > 0 then (if (((rdOf ByteArray.empty t120 a0_0) ++ (⟨#[32]⟩:ByteArray)) ++ t124).size+2≤9223372036854775807 then (if a0_2<0 then (if ((((rdOf ByteArray.empty t120 a0_0) ++ (⟨#[32]⟩:ByteArray)) ++ t124) ++ (⟨#[32,43]⟩:ByteArray)).size+2≤9223372036854775807 then (some (((((rdOf ByteArray.empty t120 a0_0) ++ (⟨#[32]⟩:ByteArray)) ++ t124) ++ (⟨#[32,43]⟩:ByteArray)) ++ (⟨#[32,45]⟩:ByteArray))) else (none)) else (some ((((rdOf ByteArray.empty t120 a0_0) ++ (⟨#[32]⟩:ByteArray)) ++ t124) ++ (⟨#[32,43]⟩:ByteArray)))) else (none)) else (if a0_2<0 then (if (((rdOf ByteArray.empty t120 a0_0) ++ (⟨#[32]⟩:ByteArray)) ++ t124).size+2≤9223372036854775807 then (some ((((rdOf ByteArray.empty t120 a0_0) ++ (⟨#[32]⟩:ByteArray)) ++ t124) ++ (⟨#[32,45]⟩:ByteArray))) else (none)) else (some (((rdOf ByteArray.empty t120 a0_0) ++ (⟨#[32]⟩:ByteArray)) ++ t124)))) else (none))) else (none)) else (none)) else (none))
def spec_l4line.T2:Bool × List (List Nat × List Nat):=(true,[([],[]),([],[]),([1],[1]),([0,2],[0,2]),([3],[3]),([4],[4]),([],[]),([6],[6]),([7],[7]),([5,8],[5,8]),([9,8,0,1,2,3,4,5,6,7,8,9],[9])])
def spec_l4line.B2:List Nat:=[0,0,2,7,15,31,0,64,192,511,1023]
theorem spec_l4line.tab2:rtab .any (opsOf Tryd.f27 2)=spec_l4line.T2:=by kernel_rfl
theorem spec_l4line.bits2:waitsOk spec_l4line.T2.2 spec_l4line.B2=true:=by kernel_rfl
set_option maxHeartbeats 8000000 in
set_option maxRecDepth 100000 in
theorem spec_l4line.calls (a0_0:Int) (a0_1:Int) (a0_2:Int) (r:ByteArray) (w:World) (h:spec_l4line.f a0_0 a0_1 a0_2=some r) :
  Calls Tryd.prog 27 #[.agg #[.int .i64 a0_0,.int .i64 a0_1,.int .i64 a0_2]] w fun e w'=>e=.returned (.string r)∧Below w.heap.size w w':=by
 have hu52:=Tryd.underlying52
 have HB:=Aside0.mk (Below.refl w.heap.size w)
 have H:((spec_l4words.f).bind fun t120=>(if 0≤a0_0 then (if a0_0<(t120.length:Int) then (if (rdOf ByteArray.empty t120 a0_0).size+1≤9223372036854775807 then ((spec_l4decimal.f a0_1).bind fun t124=>(if ((rdOf ByteArray.empty t120 a0_0) ++ (⟨#[32]⟩:ByteArray)).size+t124.size≤9223372036854775807 then (if a0_2 > 0 then (if (((rdOf ByteArray.empty t120 a0_0) ++ (⟨#[32]⟩:ByteArray)) ++ t124).size+2≤9223372036854775807 then (if a0_2<0 then (if ((((rdOf ByteArray.empty t120 a0_0) ++ (⟨#[32]⟩:ByteArray)) ++ t124) ++ (⟨#[32,43]⟩:ByteArray)).size+2≤9223372036854775807 then (some (((((rdOf ByteArray.empty t120 a0_0) ++ (⟨#[32]⟩:ByteArray)) ++ t124) ++ (⟨#[32,43]⟩:ByteArray)) ++ (⟨#[32,45]⟩:ByteArray))) else (none)) else (some ((((rdOf ByteArray.empty t120 a0_0) ++ (⟨#[32]⟩:ByteArray)) ++ t124) ++ (⟨#[32,43]⟩:ByteArray)))) else (none)) else (if a0_2<0 then (if (((rdOf ByteArray.empty t120 a0_0) ++ (⟨#[32]⟩:ByteArray)) ++ t124).size+2≤9223372036854775807 then (some ((((rdOf ByteArray.empty t120 a0_0) ++ (⟨#[32]⟩:ByteArray)) ++ t124) ++ (⟨#[32,45]⟩:ByteArray))) else (none)) else (some (((rdOf ByteArray.empty t120 a0_0) ++ (⟨#[32]⟩:ByteArray)) ++ t124)))) else (none))) else (none)) else (none)) else (none)))=some r:=h
 clear h
 replace H:=Option.bind_eq_some_iff.mp H
 obtain ⟨t120,A20,H⟩:=H
 replace H:(if 0≤a0_0 then (if a0_0<(t120.length:Int) then (if (rdOf ByteArray.empty t120 a0_0).size+1≤9223372036854775807 then ((spec_l4decimal.f a0_1).bind fun t124=>(if ((rdOf ByteArray.empty t120 a0_0) ++ (⟨#[32]⟩:ByteArray)).size+t124.size≤9223372036854775807 then (if a0_2 > 0 then (if (((rdOf ByteArray.empty t120 a0_0) ++ (⟨#[32]⟩:ByteArray)) ++ t124).size+2≤9223372036854775807 then (if a0_2<0 then (if ((((rdOf ByteArray.empty t120 a0_0) ++ (⟨#[32]⟩:ByteArray)) ++ t124) ++ (⟨#[32,43]⟩:ByteArray)).size+2≤9223372036854775807 then (some (((((rdOf ByteArray.empty t120 a0_0) ++ (⟨#[32]⟩:ByteArray)) ++ t124) ++ (⟨#[32,43]⟩:ByteArray)) ++ (⟨#[32,45]⟩:ByteArray))) else (none)) else (some ((((rdOf ByteArray.empty t120 a0_0) ++ (⟨#[32]⟩:ByteArray)) ++ t124) ++ (⟨#[32,43]⟩:ByteArray)))) else (none)) else (if a0_2<0 then (if (((rdOf ByteArray.empty t120 a0_0) ++ (⟨#[32]⟩:ByteArray)) ++ t124).size+2≤9223372036854775807 then (some ((((rdOf ByteArray.empty t120 a0_0) ++ (⟨#[32]⟩:ByteArray)) ++ t124) ++ (⟨#[32,45]⟩:ByteArray))) else (none)) else (some (((rdOf ByteArray.empty t120 a0_0) ++ (⟨#[32]⟩:ByteArray)) ++ t124)))) else (none))) else (none)) else (none)) else (none))=some r:=H
 have A2:=Aside0.mk A20
 clear A20
 by_cases c3:0≤a0_0
 ·rw [if_pos c3] at H
  have c3b0:decide (0≤a0_0)=true:=decide_eq_true c3
  clear c3
  by_cases c4:a0_0<(t120.length:Int)
  ·rw [if_pos c4] at H
   have c4b0:decide (a0_0<(t120.length:Int))=true:=decide_eq_true c4
   clear c4
   by_cases c5:(rdOf ByteArray.empty t120 a0_0).size+1≤9223372036854775807
   ·rw [if_pos c5] at H
    have c5b0:=eq_true c5
    have c5b1:decide ((rdOf ByteArray.empty t120 a0_0).size+1≤9223372036854775807)=true:=decide_eq_true c5
    try have c5b2:(9223372036854775807<(rdOf ByteArray.empty t120 a0_0).size+1)=False:=eq_false (Nat.not_lt.2 c5)
    replace H:=Option.bind_eq_some_iff.mp H
    obtain ⟨t124,A60,H⟩:=H
    replace H:(if ((rdOf ByteArray.empty t120 a0_0) ++ (⟨#[32]⟩:ByteArray)).size+t124.size≤9223372036854775807 then (if a0_2 > 0 then (if (((rdOf ByteArray.empty t120 a0_0) ++ (⟨#[32]⟩:ByteArray)) ++ t124).size+2≤9223372036854775807 then (if a0_2<0 then (if ((((rdOf ByteArray.empty t120 a0_0) ++ (⟨#[32]⟩:ByteArray)) ++ t124) ++ (⟨#[32,43]⟩:ByteArray)).size+2≤9223372036854775807 then (some (((((rdOf ByteArray.empty t120 a0_0) ++ (⟨#[32]⟩:ByteArray)) ++ t124) ++ (⟨#[32,43]⟩:ByteArray)) ++ (⟨#[32,45]⟩:ByteArray))) else (none)) else (some ((((rdOf ByteArray.empty t120 a0_0) ++ (⟨#[32]⟩:ByteArray)) ++ t124) ++ (⟨#[32,43]⟩:ByteArray)))) else (none)) else (if a0_2<0 then (if (((rdOf ByteArray.empty t120 a0_0) ++ (⟨#[32]⟩:ByteArray)) ++ t124).size+2≤9223372036854775807 then (some ((((rdOf ByteArray.empty t120 a0_0) ++ (⟨#[32]⟩:ByteArray)) ++ t124) ++ (⟨#[32,45]⟩:ByteArray))) else (none)) else (some (((rdOf ByteArray.empty t120 a0_0) ++ (⟨#[32]⟩:ByteArray)) ++ t124)))) else (none))=some r:=H
    have A6:=Aside0.mk A60
    clear A60
    by_cases c7:((rdOf ByteArray.empty t120 a0_0) ++ (⟨#[32]⟩:ByteArray)).size+t124.size≤9223372036854775807
    ·rw [if_pos c7] at H
     have c7b0:=eq_true c7
     have c7b1:decide (((rdOf ByteArray.empty t120 a0_0) ++ (⟨#[32]⟩:ByteArray)).size+t124.size≤9223372036854775807)=true:=decide_eq_true c7
     try have c7b2:(9223372036854775807<((rdOf ByteArray.empty t120 a0_0) ++ (⟨#[32]⟩:ByteArray)).size+t124.size)=False:=eq_false (Nat.not_lt.2 c7)
     have c7n0n_1:(rdOf ByteArray.empty t120 a0_0).size+1+t124.size≤9223372036854775807:=by have:=c7;simp only [ByteArray.size_append] at this;exact this
     have c7n0n_2:(9223372036854775807<(rdOf ByteArray.empty t120 a0_0).size+1+t124.size)=False:=eq_false (Nat.not_lt.2 c7n0n_1)
     have c7n0n_3:((rdOf ByteArray.empty t120 a0_0).size+1+t124.size≤9223372036854775807)=True:=eq_true c7n0n_1
     by_cases c8:a0_2 > 0
     ·rw [if_pos c8] at H
      have c8b0:decide (0<a0_2)=true:=decide_eq_true c8
      clear c8
      by_cases c9:(((rdOf ByteArray.empty t120 a0_0) ++ (⟨#[32]⟩:ByteArray)) ++ t124).size+2≤9223372036854775807
      ·rw [if_pos c9] at H
       have c9b0:=eq_true c9
       have c9b1:decide ((((rdOf ByteArray.empty t120 a0_0) ++ (⟨#[32]⟩:ByteArray)) ++ t124).size+2≤9223372036854775807)=true:=decide_eq_true c9
       try have c9b2:(9223372036854775807<(((rdOf ByteArray.empty t120 a0_0) ++ (⟨#[32]⟩:ByteArray)) ++ t124).size+2)=False:=eq_false (Nat.not_lt.2 c9)
       have c9n0n_1:(rdOf ByteArray.empty t120 a0_0).size+1+t124.size+2≤9223372036854775807:=by have:=c9;simp only [ByteArray.size_append] at this;exact this
       have c9n0n_2:(9223372036854775807<(rdOf ByteArray.empty t120 a0_0).size+1+t124.size+2)=False:=eq_false (Nat.not_lt.2 c9n0n_1)
       have c9n0n_3:((rdOf ByteArray.empty t120 a0_0).size+1+t124.size+2≤9223372036854775807)=True:=eq_true c9n0n_1
       by_cases c10:a0_2<0
       ·rw [if_pos c10] at H
        have c10b0:decide (a0_2<0)=true:=decide_eq_true c10
        clear c10
        by_cases c11:((((rdOf ByteArray.empty t120 a0_0) ++ (⟨#[32]⟩:ByteArray)) ++ t124) ++ (⟨#[32,43]⟩:ByteArray)).size+2≤9223372036854775807
        ·rw [if_pos c11] at H
         have c11b0:=eq_true c11
         have c11b1:decide (((((rdOf ByteArray.empty t120 a0_0) ++ (⟨#[32]⟩:ByteArray)) ++ t124) ++ (⟨#[32,43]⟩:ByteArray)).size+2≤9223372036854775807)=true:=decide_eq_true c11
         try have c11b2:(9223372036854775807<((((rdOf ByteArray.empty t120 a0_0) ++ (⟨#[32]⟩:ByteArray)) ++ t124) ++ (⟨#[32,43]⟩:ByteArray)).size+2)=False:=eq_false (Nat.not_lt.2 c11)
         have c11n0n_1:(rdOf ByteArray.empty t120 a0_0).size+1+t124.size+2+2≤9223372036854775807:=by have:=c11;simp only [ByteArray.size_append] at this;exact this
         have c11n0n_2:(9223372036854775807<(rdOf ByteArray.empty t120 a0_0).size+1+t124.size+2+2)=False:=eq_false (Nat.not_lt.2 c11n0n_1)
         have c11n0n_3:((rdOf ByteArray.empty t120 a0_0).size+1+t124.size+2+2≤9223372036854775807)=True:=eq_true c11n0n_1
         have c11n1n_1:(rdOf ByteArray.empty t120 a0_0).size+1+t124.size+4≤9223372036854775807:=by have:=c11;simp only [ByteArray.size_append] at this;exact this
         have c11n1n_2:(9223372036854775807<(rdOf ByteArray.empty t120 a0_0).size+1+t124.size+4)=False:=eq_false (Nat.not_lt.2 c11n1n_1)
         have c11n1n_3:((rdOf ByteArray.empty t120 a0_0).size+1+t124.size+4≤9223372036854775807)=True:=eq_true c11n1n_1
         obtain rfl:=Option.some.inj H
         go_enter Tryd.func27,Tryd.ntmps27
         try go_wp2_with (first|((with_reducible refine gate_dst (N:=1) rfl ?_);refine box_event ?hg (N:=1) ?hd (cs:=#[.int .i64 a0_0,.int .i64 a0_1,.int .i64 a0_2]) (t:=52) ?hr ?_;(case hd=>rfl);(case hg=>rfl);(case hr=>first|(go_simp;done)|(go_simp;rfl));intro gb119 hg w12 hbox hb;have n0_:=Aside0.mk (below_step (by repeat (first|(with_reducible first|exact HB.out|apply below_alloc|apply pw_below_drewN|apply below_drew1)|exact HB.out)) hb);have n1_:=Aside0.mk (hbox);have n2_:=Aside0.mk ((by rw [hg];exact (below_size (by repeat (first|(with_reducible first|exact HB.out|apply below_alloc|apply pw_below_drewN|apply below_drew1)|exact HB.out))):w.heap.size≤gb119));have n3_:=Aside0.mk ((by rw [hg];exact (below_size (by repeat (first|(with_reducible first|exact HB.out|apply below_alloc|apply pw_below_drewN|apply below_drew1)|exact HB.out))):w.heap.size≤gb119));clear HB;have HB:=n0_;have BK119:=n1_;have GW119:=n2_;have GE119:=n3_;clear n0_ n1_ n2_ n3_;clear hb hbox hg)|((with_reducible refine gate_callee (f:=52) rfl ?_);refine goesL_ (some 5) rfl rfl Tryd.func52 (by kernel_rfl) rfl #[] rfl (by (try simp only [List.map_toArray,List.map_cons,List.map_nil]);first|done|rfl|(simp only [List.length_drop,List.length_take];rfl)) ?_;(with_reducible refine (spec_l4words.calls  t120 _ A2.out).mono ?_);rintro e w13 ⟨v121,rfl,ho0,hb⟩;refine ⟨_,rfl,?_⟩;have n0_:=Aside0.mk (Kd.R_lower ho0 (below_size (by repeat (first|(with_reducible first|exact HB.out|apply below_alloc|apply pw_below_drewN|apply below_drew1|refine below_set ?_ GE119.out)|exact HB.out))));have n1_:=Aside0.mk (blk_below (g:=gb119) (o:=.cells #[.int .i64 a0_0,.int .i64 a0_1,.int .i64 a0_2] 52 (0,0)) (by (with_reducible repeat (first|refine blk_drewN ?_ _|refine blk_drew ?_|refine blk_alloc ?_ _));exact BK119.out) hb);have n2_:=Aside0.mk (below_step (by repeat (first|(with_reducible first|exact HB.out|apply below_alloc|apply pw_below_drewN|apply below_drew1|refine below_set ?_ GE119.out)|exact HB.out)) hb);clear BK119;clear HB;have HO122:=n0_;have BK119:=n1_;have HB:=n2_;clear n0_ n1_ n2_;(try clear hb);(try clear hb2);(try clear hk);(try clear hi);(try clear ho0)))
         have n0_:=Aside0.mk (Kd.R_drew HO122.out)
         have n1_:=Aside0.mk (blk_drew BK119.out)
         have n2_:=Aside0.mk (below_drew1 HB.out)
         clear HO122
         clear BK119
         clear HB
         have HO122:=n0_
         have BK119:=n1_
         have HB:=n2_
         clear n0_ n1_ n2_
         obtain ⟨Ao15,co15,eo15⟩:=Kd.R_slice HO122.out
         (first|subst eo15|(injection eo15 with f1_ f2_ f3_;have f4_:=f1_.symm;have f5_:=f3_.symm;clear f1_ f2_ f3_;subst f4_;subst f5_))
         have p123:0≤(a0_0:Int):=of_decide_eq_true (by first|(with_reducible assumption)|assumption)
         have q123:a0_0<(t120.length:Int):=of_decide_eq_true (by first|(with_reducible assumption)|assumption)
         obtain ⟨ad123,e123,hx123_0⟩:=Kd.at_string (Kd.R_reads' HO122.out).2.2 a0_0 p123 q123
         cases e123
         replace p123:=eq_true p123
         replace q123:=eq_true q123
         refine start_ (n:=11) (S:=fun w'=>w'.cell? ⟨gb119,0,none⟩=some (.int .i64 a0_0)∧w'.cell? ⟨gb119,1,none⟩=some (.int .i64 a0_1)∧w'.cell? ⟨gb119,2,none⟩=some (.int .i64 a0_2)∧w'.cell? (ad123.add (a0_0).toNat)=some (.string (rdOf ByteArray.empty t120 a0_0))) (ds:=[]) #[false,false,false,false,false,false,false,false,false,false,false] (by kernel_rfl) rfl rfl ⟨(blk_cell BK119.out 0).trans rfl,(blk_cell BK119.out 1).trans rfl,(blk_cell BK119.out 2).trans rfl,hx123_0⟩ (fun hHeld=>?_);refine with_tabW spec_l4line.tab2 spec_l4line.bits2 (fun HT_ HW_=>?_)
         generalize w13.drew=w14 at HO122 BK119 HB hx123_0 hHeld ⊢
         refine pure_ (i:=0) (N:=some 6) (v:=?_) (a':=?_) #[true,false,false,false,false,false,false,false,false,false,false] rfl rfl (any_of HT_.out (by kernel_rfl)) (fun _ _ _ h=>h) (Or.inl ⟨by rfl,?_⟩) ?_ ?_
         rotate_left
         ·intro w'
          go_simp
          with_reducible rfl
         rotate_left
         ·simp only [Act.put,List.setIfInBounds_toArray,List.set_cons_zero,List.set_cons_succ,i64_w,i32_w]
          rfl
         refine pure_ (i:=1) (N:=some 7) (v:=?_) (a':=?_) #[true,true,false,false,false,false,false,false,false,false,false] rfl rfl (any_of HT_.out (by kernel_rfl)) (fun _ _ _ h=>h) (Or.inl ⟨by rfl,?_⟩) ?_ ?_
         rotate_left
         ·intro w'
          go_simp
          with_reducible rfl
         rotate_left
         ·simp only [Act.put,List.setIfInBounds_toArray,List.set_cons_zero,List.set_cons_succ,i64_w,i32_w]
          rfl
         refine pure_ (i:=6) (N:=some 12) (v:=?_) (a':=?_) #[true,true,false,false,false,false,true,false,false,false,false] rfl rfl (any_of HT_.out (by kernel_rfl)) (fun _ _ _ h=>h) (Or.inl ⟨by rfl,?_⟩) ?_ ?_
         rotate_left
         ·intro w'
          go_simp
          with_reducible rfl
         rotate_left
         ·simp only [Act.put,List.setIfInBounds_toArray,List.set_cons_zero,List.set_cons_succ,i64_w,i32_w]
          rfl
         refine take_ (i:=2) (N:=some 8) (v:=?_) (a':=?_) #[true,true,true,false,false,false,true,false,false,false,false] rfl rfl (take_ofW HT_.out HW_.out (by kernel_rfl)) (fun _ _ _ h=>h) (Or.inl ⟨by rfl,?_⟩) hHeld ?_ ?_
         rotate_left
         ·rintro w' ⟨s0,s1,s2,s3⟩
          go_simp
          with_reducible rfl
         rotate_left
         ·simp only [Act.put,List.setIfInBounds_toArray,List.set_cons_zero,List.set_cons_succ,i64_w,i32_w]
          rfl
         refine pure_ (i:=3) (N:=some 9) (v:=?_) (a':=?_) #[true,true,true,true,false,false,true,false,false,false,false] rfl rfl (any_of HT_.out (by kernel_rfl)) (fun _ _ _ h=>h) (Or.inl ⟨by rfl,?_⟩) ?_ ?_
         rotate_left
         ·intro w'
          go_simp
          with_reducible rfl
         rotate_left
         ·simp only [Act.put,List.setIfInBounds_toArray,List.set_cons_zero,List.set_cons_succ,i64_w,i32_w]
          rfl
         refine take_ (i:=4) (N:=some 10) (v:=?_) (a':=?_) #[true,true,true,true,true,false,true,false,false,false,false] rfl rfl (take_ofW HT_.out HW_.out (by kernel_rfl)) (fun _ _ _ h=>h) (Or.inl ⟨by rfl,?_⟩) hHeld ?_ ?_
         rotate_left
         ·rintro w' ⟨s0,s1,s2,s3⟩
          go_simp
          with_reducible rfl
         rotate_left
         ·simp only [Act.put,List.setIfInBounds_toArray,List.set_cons_zero,List.set_cons_succ,i64_w,i32_w]
          rfl
         refine pure_ (i:=5) (N:=some 11) (v:=?_) (a':=?_) #[true,true,true,true,true,true,true,false,false,false,false] rfl rfl (any_of HT_.out (by kernel_rfl)) (fun _ _ _ h=>h) (Or.inl ⟨by rfl,?_⟩) ?_ ?_
         rotate_left
         ·intro w'
          go_simp
          with_reducible rfl
         rotate_left
         ·simp only [Act.put,List.setIfInBounds_toArray,List.set_cons_zero,List.set_cons_succ,i64_w,i32_w]
          rfl
         refine take_ (i:=7) (N:=some 13) (v:=?_) (a':=?_) #[true,true,true,true,true,true,true,true,false,false,false] rfl rfl (take_ofW HT_.out HW_.out (by kernel_rfl)) (fun _ _ _ h=>h) (Or.inl ⟨by rfl,?_⟩) hHeld ?_ ?_
         rotate_left
         ·rintro w' ⟨s0,s1,s2,s3⟩
          go_simp
          with_reducible rfl
         rotate_left
         ·simp only [Act.put,List.setIfInBounds_toArray,List.set_cons_zero,List.set_cons_succ,i64_w,i32_w]
          rfl
         refine one_ (i:=8) (N:=some 14) #[true,true,true,true,true,true,true,true,true,false,false] rfl rfl (one_of HT_.out (by kernel_rfl)) (by decide) (fun K hK=>?_)
         refine goes_ Tryd.func44 (by kernel_rfl) rfl #[.int .i64 a0_1] (by rfl) rfl rfl (by (try simp only [List.map_toArray,List.map_cons,List.map_nil]);first|done|rfl|(simp only [List.length_drop,List.length_take];rfl)) ?_
         with_reducible refine (spec_l4decimal.calls a0_1 t124 _ A6.out).mono ?_
         rintro e w16 ⟨rfl,hb⟩
         have HS3_:=(hb.cell (World.block_lt_of_cell? _ _ (hHeld.2.2.2))).trans (hHeld.2.2.2)
         refine ⟨_,rfl,?_⟩
         have n0_:=Aside0.mk (Kd.R_below (by (with_reducible repeat (first|apply Kd.R_alloc|apply Kd.R_drewN|apply Kd.R_drew));exact HO122.out) hb)
         have n1_:=Aside0.mk (blk_below (g:=gb119) (o:=.cells #[.int .i64 a0_0,.int .i64 a0_1,.int .i64 a0_2] 52 (0,0)) (by (with_reducible repeat (first|refine blk_drewN ?_ _|refine blk_drew ?_|refine blk_alloc ?_ _));exact BK119.out) hb)
         have n2_:=Aside0.mk (below_step (by repeat (first|(with_reducible first|exact HB.out|apply below_alloc|apply pw_below_drewN|apply below_drew1|refine below_set ?_ GE119.out)|exact HB.out)) hb)
         clear HO122
         clear BK119
         clear HB
         have HO122:=n0_
         have BK119:=n1_
         have HB:=n2_
         clear n0_ n1_ n2_
         (try clear hb)
         (try clear hb2)
         (try clear hk)
         (try clear hi)
         refine hK.out _ _ ⟨(blk_cell BK119.out 0).trans rfl,(blk_cell BK119.out 1).trans rfl,(blk_cell BK119.out 2).trans rfl,HS3_⟩ (fun hHeld=>?_)
         clear hK K
         refine norm_ (a':=?_) ?_ ?_
         rotate_left
         ·show Act.put _ (some 14) _=_
          simp only [Act.put,List.setIfInBounds_toArray,List.set_cons_zero,List.set_cons_succ,i64_w,i32_w]
          rfl
         refine pure_ (i:=9) (N:=some 15) (v:=?_) (a':=?_) #[true,true,true,true,true,true,true,true,true,true,false] rfl rfl (any_of HT_.out (by kernel_rfl)) (fun _ _ _ h=>h) (Or.inl ⟨by rfl,?_⟩) ?_ ?_
         rotate_left
         ·intro w'
          go_simp
          with_reducible rfl
         rotate_left
         ·simp only [Act.put,List.setIfInBounds_toArray,List.set_cons_zero,List.set_cons_succ,i64_w,i32_w]
          rfl
         refine pure_ (i:=10) (N:=some 4) (v:=?_) (a':=?_) #[true,true,true,true,true,true,true,true,true,true,true] rfl rfl (any_of HT_.out (by kernel_rfl)) (fun _ _ _ h=>h) (Or.inl ⟨by rfl,?_⟩) ?_ ?_
         rotate_left
         ·intro w'
          go_simp
          with_reducible rfl
         rotate_left
         ·simp only [Act.put,List.setIfInBounds_toArray,List.set_cons_zero,List.set_cons_succ,i64_w,i32_w]
          rfl
         refine done_ (done_of HT_.out (by kernel_rfl)) ?_
         have hcz17_0:w16.cell? ⟨gb119,0,none⟩=some (.int .i64 a0_0):=(blk_cell BK119.out 0).trans rfl
         have hcz17_1:w16.cell? ⟨gb119,1,none⟩=some (.int .i64 a0_1):=(blk_cell BK119.out 1).trans rfl
         have hcz17_2:w16.cell? ⟨gb119,2,none⟩=some (.int .i64 a0_2):=(blk_cell BK119.out 2).trans rfl
         have hfz17_0:=blk_frozen BK119.out 0
         have hfz17_1:=blk_frozen BK119.out 1
         have hfz17_2:=blk_frozen BK119.out 2
         try go_wp2
         go_ret
         exact ⟨by first|rfl|(simp [errW_none,errW_some] <;> rfl)|(simp [*,errW_none,errW_some] <;> rfl),by repeat (first|(with_reducible first|exact HB.out|apply below_alloc|apply pw_below_drewN|apply below_drew1|refine below_set ?_ GE119.out)|exact HB.out)⟩
        rw [if_neg c11] at H
        exact absurd H (by simp)
       rw [if_neg c10] at H
       have c10b0:decide (a0_2<0)=false:=decide_eq_false c10
       clear c10
       obtain rfl:=Option.some.inj H
       go_enter Tryd.func27,Tryd.ntmps27
       try go_wp2_with (first|((with_reducible refine gate_dst (N:=1) rfl ?_);refine box_event ?hg (N:=1) ?hd (cs:=#[.int .i64 a0_0,.int .i64 a0_1,.int .i64 a0_2]) (t:=52) ?hr ?_;(case hd=>rfl);(case hg=>rfl);(case hr=>first|(go_simp;done)|(go_simp;rfl));intro gb119 hg w18 hbox hb;have n0_:=Aside0.mk (below_step (by repeat (first|(with_reducible first|exact HB.out|apply below_alloc|apply pw_below_drewN|apply below_drew1)|exact HB.out)) hb);have n1_:=Aside0.mk (hbox);have n2_:=Aside0.mk ((by rw [hg];exact (below_size (by repeat (first|(with_reducible first|exact HB.out|apply below_alloc|apply pw_below_drewN|apply below_drew1)|exact HB.out))):w.heap.size≤gb119));have n3_:=Aside0.mk ((by rw [hg];exact (below_size (by repeat (first|(with_reducible first|exact HB.out|apply below_alloc|apply pw_below_drewN|apply below_drew1)|exact HB.out))):w.heap.size≤gb119));clear HB;have HB:=n0_;have BK119:=n1_;have GW119:=n2_;have GE119:=n3_;clear n0_ n1_ n2_ n3_;clear hb hbox hg)|((with_reducible refine gate_callee (f:=52) rfl ?_);refine goesL_ (some 5) rfl rfl Tryd.func52 (by kernel_rfl) rfl #[] rfl (by (try simp only [List.map_toArray,List.map_cons,List.map_nil]);first|done|rfl|(simp only [List.length_drop,List.length_take];rfl)) ?_;(with_reducible refine (spec_l4words.calls  t120 _ A2.out).mono ?_);rintro e w19 ⟨v121,rfl,ho0,hb⟩;refine ⟨_,rfl,?_⟩;have n0_:=Aside0.mk (Kd.R_lower ho0 (below_size (by repeat (first|(with_reducible first|exact HB.out|apply below_alloc|apply pw_below_drewN|apply below_drew1|refine below_set ?_ GE119.out)|exact HB.out))));have n1_:=Aside0.mk (blk_below (g:=gb119) (o:=.cells #[.int .i64 a0_0,.int .i64 a0_1,.int .i64 a0_2] 52 (0,0)) (by (with_reducible repeat (first|refine blk_drewN ?_ _|refine blk_drew ?_|refine blk_alloc ?_ _));exact BK119.out) hb);have n2_:=Aside0.mk (below_step (by repeat (first|(with_reducible first|exact HB.out|apply below_alloc|apply pw_below_drewN|apply below_drew1|refine below_set ?_ GE119.out)|exact HB.out)) hb);clear BK119;clear HB;have HO122:=n0_;have BK119:=n1_;have HB:=n2_;clear n0_ n1_ n2_;(try clear hb);(try clear hb2);(try clear hk);(try clear hi);(try clear ho0)))
       have n0_:=Aside0.mk (Kd.R_drew HO122.out)
       have n1_:=Aside0.mk (blk_drew BK119.out)
       have n2_:=Aside0.mk (below_drew1 HB.out)
       clear HO122
       clear BK119
       clear HB
       have HO122:=n0_
       have BK119:=n1_
       have HB:=n2_
       clear n0_ n1_ n2_
       obtain ⟨Ao21,co21,eo21⟩:=Kd.R_slice HO122.out
       (first|subst eo21|(injection eo21 with f1_ f2_ f3_;have f4_:=f1_.symm;have f5_:=f3_.symm;clear f1_ f2_ f3_;subst f4_;subst f5_))
       have p123:0≤(a0_0:Int):=of_decide_eq_true (by first|(with_reducible assumption)|assumption)
       have q123:a0_0<(t120.length:Int):=of_decide_eq_true (by first|(with_reducible assumption)|assumption)
       obtain ⟨ad123,e123,hx123_0⟩:=Kd.at_string (Kd.R_reads' HO122.out).2.2 a0_0 p123 q123
       cases e123
       replace p123:=eq_true p123
       replace q123:=eq_true q123
       refine start_ (n:=11) (S:=fun w'=>w'.cell? ⟨gb119,0,none⟩=some (.int .i64 a0_0)∧w'.cell? ⟨gb119,1,none⟩=some (.int .i64 a0_1)∧w'.cell? ⟨gb119,2,none⟩=some (.int .i64 a0_2)∧w'.cell? (ad123.add (a0_0).toNat)=some (.string (rdOf ByteArray.empty t120 a0_0))) (ds:=[]) #[false,false,false,false,false,false,false,false,false,false,false] (by kernel_rfl) rfl rfl ⟨(blk_cell BK119.out 0).trans rfl,(blk_cell BK119.out 1).trans rfl,(blk_cell BK119.out 2).trans rfl,hx123_0⟩ (fun hHeld=>?_);refine with_tabW spec_l4line.tab2 spec_l4line.bits2 (fun HT_ HW_=>?_)
       generalize w19.drew=w20 at HO122 BK119 HB hx123_0 hHeld ⊢
       refine pure_ (i:=0) (N:=some 6) (v:=?_) (a':=?_) #[true,false,false,false,false,false,false,false,false,false,false] rfl rfl (any_of HT_.out (by kernel_rfl)) (fun _ _ _ h=>h) (Or.inl ⟨by rfl,?_⟩) ?_ ?_
       rotate_left
       ·intro w'
        go_simp
        with_reducible rfl
       rotate_left
       ·simp only [Act.put,List.setIfInBounds_toArray,List.set_cons_zero,List.set_cons_succ,i64_w,i32_w]
        rfl
       refine pure_ (i:=1) (N:=some 7) (v:=?_) (a':=?_) #[true,true,false,false,false,false,false,false,false,false,false] rfl rfl (any_of HT_.out (by kernel_rfl)) (fun _ _ _ h=>h) (Or.inl ⟨by rfl,?_⟩) ?_ ?_
       rotate_left
       ·intro w'
        go_simp
        with_reducible rfl
       rotate_left
       ·simp only [Act.put,List.setIfInBounds_toArray,List.set_cons_zero,List.set_cons_succ,i64_w,i32_w]
        rfl
       refine pure_ (i:=6) (N:=some 12) (v:=?_) (a':=?_) #[true,true,false,false,false,false,true,false,false,false,false] rfl rfl (any_of HT_.out (by kernel_rfl)) (fun _ _ _ h=>h) (Or.inl ⟨by rfl,?_⟩) ?_ ?_
       rotate_left
       ·intro w'
        go_simp
        with_reducible rfl
       rotate_left
       ·simp only [Act.put,List.setIfInBounds_toArray,List.set_cons_zero,List.set_cons_succ,i64_w,i32_w]
        rfl
       refine take_ (i:=2) (N:=some 8) (v:=?_) (a':=?_) #[true,true,true,false,false,false,true,false,false,false,false] rfl rfl (take_ofW HT_.out HW_.out (by kernel_rfl)) (fun _ _ _ h=>h) (Or.inl ⟨by rfl,?_⟩) hHeld ?_ ?_
       rotate_left
       ·rintro w' ⟨s0,s1,s2,s3⟩
        go_simp
        with_reducible rfl
       rotate_left
       ·simp only [Act.put,List.setIfInBounds_toArray,List.set_cons_zero,List.set_cons_succ,i64_w,i32_w]
        rfl
       refine pure_ (i:=3) (N:=some 9) (v:=?_) (a':=?_) #[true,true,true,true,false,false,true,false,false,false,false] rfl rfl (any_of HT_.out (by kernel_rfl)) (fun _ _ _ h=>h) (Or.inl ⟨by rfl,?_⟩) ?_ ?_
       rotate_left
       ·intro w'
        go_simp
        with_reducible rfl
       rotate_left
       ·simp only [Act.put,List.setIfInBounds_toArray,List.set_cons_zero,List.set_cons_succ,i64_w,i32_w]
        rfl
       refine take_ (i:=4) (N:=some 10) (v:=?_) (a':=?_) #[true,true,true,true,true,false,true,false,false,false,false] rfl rfl (take_ofW HT_.out HW_.out (by kernel_rfl)) (fun _ _ _ h=>h) (Or.inl ⟨by rfl,?_⟩) hHeld ?_ ?_
       rotate_left
       ·rintro w' ⟨s0,s1,s2,s3⟩
        go_simp
        with_reducible rfl
       rotate_left
       ·simp only [Act.put,List.setIfInBounds_toArray,List.set_cons_zero,List.set_cons_succ,i64_w,i32_w]
        rfl
       refine pure_ (i:=5) (N:=some 11) (v:=?_) (a':=?_) #[true,true,true,true,true,true,true,false,false,false,false] rfl rfl (any_of HT_.out (by kernel_rfl)) (fun _ _ _ h=>h) (Or.inl ⟨by rfl,?_⟩) ?_ ?_
       rotate_left
       ·intro w'
        go_simp
        with_reducible rfl
       rotate_left
       ·simp only [Act.put,List.setIfInBounds_toArray,List.set_cons_zero,List.set_cons_succ,i64_w,i32_w]
        rfl
       refine take_ (i:=7) (N:=some 13) (v:=?_) (a':=?_) #[true,true,true,true,true,true,true,true,false,false,false] rfl rfl (take_ofW HT_.out HW_.out (by kernel_rfl)) (fun _ _ _ h=>h) (Or.inl ⟨by rfl,?_⟩) hHeld ?_ ?_
       rotate_left
       ·rintro w' ⟨s0,s1,s2,s3⟩
        go_simp
        with_reducible rfl
       rotate_left
       ·simp only [Act.put,List.setIfInBounds_toArray,List.set_cons_zero,List.set_cons_succ,i64_w,i32_w]
        rfl
       refine one_ (i:=8) (N:=some 14) #[true,true,true,true,true,true,true,true,true,false,false] rfl rfl (one_of HT_.out (by kernel_rfl)) (by decide) (fun K hK=>?_)
       refine goes_ Tryd.func44 (by kernel_rfl) rfl #[.int .i64 a0_1] (by rfl) rfl rfl (by (try simp only [List.map_toArray,List.map_cons,List.map_nil]);first|done|rfl|(simp only [List.length_drop,List.length_take];rfl)) ?_
       with_reducible refine (spec_l4decimal.calls a0_1 t124 _ A6.out).mono ?_
       rintro e w22 ⟨rfl,hb⟩
       have HS3_:=(hb.cell (World.block_lt_of_cell? _ _ (hHeld.2.2.2))).trans (hHeld.2.2.2)
       refine ⟨_,rfl,?_⟩
       have n0_:=Aside0.mk (Kd.R_below (by (with_reducible repeat (first|apply Kd.R_alloc|apply Kd.R_drewN|apply Kd.R_drew));exact HO122.out) hb)
       have n1_:=Aside0.mk (blk_below (g:=gb119) (o:=.cells #[.int .i64 a0_0,.int .i64 a0_1,.int .i64 a0_2] 52 (0,0)) (by (with_reducible repeat (first|refine blk_drewN ?_ _|refine blk_drew ?_|refine blk_alloc ?_ _));exact BK119.out) hb)
       have n2_:=Aside0.mk (below_step (by repeat (first|(with_reducible first|exact HB.out|apply below_alloc|apply pw_below_drewN|apply below_drew1|refine below_set ?_ GE119.out)|exact HB.out)) hb)
       clear HO122
       clear BK119
       clear HB
       have HO122:=n0_
       have BK119:=n1_
       have HB:=n2_
       clear n0_ n1_ n2_
       (try clear hb)
       (try clear hb2)
       (try clear hk)
       (try clear hi)
       refine hK.out _ _ ⟨(blk_cell BK119.out 0).trans rfl,(blk_cell BK119.out 1).trans rfl,(blk_cell BK119.out 2).trans rfl,HS3_⟩ (fun hHeld=>?_)
       clear hK K
       refine norm_ (a':=?_) ?_ ?_
       rotate_left
       ·show Act.put _ (some 14) _=_
        simp only [Act.put,List.setIfInBounds_toArray,List.set_cons_zero,List.set_cons_succ,i64_w,i32_w]
        rfl
       refine pure_ (i:=9) (N:=some 15) (v:=?_) (a':=?_) #[true,true,true,true,true,true,true,true,true,true,false] rfl rfl (any_of HT_.out (by kernel_rfl)) (fun _ _ _ h=>h) (Or.inl ⟨by rfl,?_⟩) ?_ ?_
       rotate_left
       ·intro w'
        go_simp
        with_reducible rfl
       rotate_left
       ·simp only [Act.put,List.setIfInBounds_toArray,List.set_cons_zero,List.set_cons_succ,i64_w,i32_w]
        rfl
       refine pure_ (i:=10) (N:=some 4) (v:=?_) (a':=?_) #[true,true,true,true,true,true,true,true,true,true,true] rfl rfl (any_of HT_.out (by kernel_rfl)) (fun _ _ _ h=>h) (Or.inl ⟨by rfl,?_⟩) ?_ ?_
       rotate_left
       ·intro w'
        go_simp
        with_reducible rfl
       rotate_left
       ·simp only [Act.put,List.setIfInBounds_toArray,List.set_cons_zero,List.set_cons_succ,i64_w,i32_w]
        rfl
       refine done_ (done_of HT_.out (by kernel_rfl)) ?_
       have hcz23_0:w22.cell? ⟨gb119,0,none⟩=some (.int .i64 a0_0):=(blk_cell BK119.out 0).trans rfl
       have hcz23_1:w22.cell? ⟨gb119,1,none⟩=some (.int .i64 a0_1):=(blk_cell BK119.out 1).trans rfl
       have hcz23_2:w22.cell? ⟨gb119,2,none⟩=some (.int .i64 a0_2):=(blk_cell BK119.out 2).trans rfl
       have hfz23_0:=blk_frozen BK119.out 0
       have hfz23_1:=blk_frozen BK119.out 1
       have hfz23_2:=blk_frozen BK119.out 2
       try go_wp2
       go_ret
       exact ⟨by first|rfl|(simp [errW_none,errW_some] <;> rfl)|(simp [*,errW_none,errW_some] <;> rfl),by repeat (first|(with_reducible first|exact HB.out|apply below_alloc|apply pw_below_drewN|apply below_drew1|refine below_set ?_ GE119.out)|exact HB.out)⟩
      rw [if_neg c9] at H
      exact absurd H (by simp)
     rw [if_neg c8] at H
     have c8b0:decide (0<a0_2)=false:=decide_eq_false c8
     clear c8
     by_cases c24:a0_2<0
     ·rw [if_pos c24] at H
      have c24b0:decide (a0_2<0)=true:=decide_eq_true c24
      clear c24
      by_cases c25:(((rdOf ByteArray.empty t120 a0_0) ++ (⟨#[32]⟩:ByteArray)) ++ t124).size+2≤9223372036854775807
      ·rw [if_pos c25] at H
       have c25b0:=eq_true c25
       have c25b1:decide ((((rdOf ByteArray.empty t120 a0_0) ++ (⟨#[32]⟩:ByteArray)) ++ t124).size+2≤9223372036854775807)=true:=decide_eq_true c25
       try have c25b2:(9223372036854775807<(((rdOf ByteArray.empty t120 a0_0) ++ (⟨#[32]⟩:ByteArray)) ++ t124).size+2)=False:=eq_false (Nat.not_lt.2 c25)
       have c25n0n_1:(rdOf ByteArray.empty t120 a0_0).size+1+t124.size+2≤9223372036854775807:=by have:=c25;simp only [ByteArray.size_append] at this;exact this
       have c25n0n_2:(9223372036854775807<(rdOf ByteArray.empty t120 a0_0).size+1+t124.size+2)=False:=eq_false (Nat.not_lt.2 c25n0n_1)
       have c25n0n_3:((rdOf ByteArray.empty t120 a0_0).size+1+t124.size+2≤9223372036854775807)=True:=eq_true c25n0n_1
       obtain rfl:=Option.some.inj H
       go_enter Tryd.func27,Tryd.ntmps27
       try go_wp2_with (first|((with_reducible refine gate_dst (N:=1) rfl ?_);refine box_event ?hg (N:=1) ?hd (cs:=#[.int .i64 a0_0,.int .i64 a0_1,.int .i64 a0_2]) (t:=52) ?hr ?_;(case hd=>rfl);(case hg=>rfl);(case hr=>first|(go_simp;done)|(go_simp;rfl));intro gb119 hg w26 hbox hb;have n0_:=Aside0.mk (below_step (by repeat (first|(with_reducible first|exact HB.out|apply below_alloc|apply pw_below_drewN|apply below_drew1)|exact HB.out)) hb);have n1_:=Aside0.mk (hbox);have n2_:=Aside0.mk ((by rw [hg];exact (below_size (by repeat (first|(with_reducible first|exact HB.out|apply below_alloc|apply pw_below_drewN|apply below_drew1)|exact HB.out))):w.heap.size≤gb119));have n3_:=Aside0.mk ((by rw [hg];exact (below_size (by repeat (first|(with_reducible first|exact HB.out|apply below_alloc|apply pw_below_drewN|apply below_drew1)|exact HB.out))):w.heap.size≤gb119));clear HB;have HB:=n0_;have BK119:=n1_;have GW119:=n2_;have GE119:=n3_;clear n0_ n1_ n2_ n3_;clear hb hbox hg)|((with_reducible refine gate_callee (f:=52) rfl ?_);refine goesL_ (some 5) rfl rfl Tryd.func52 (by kernel_rfl) rfl #[] rfl (by (try simp only [List.map_toArray,List.map_cons,List.map_nil]);first|done|rfl|(simp only [List.length_drop,List.length_take];rfl)) ?_;(with_reducible refine (spec_l4words.calls  t120 _ A2.out).mono ?_);rintro e w27 ⟨v121,rfl,ho0,hb⟩;refine ⟨_,rfl,?_⟩;have n0_:=Aside0.mk (Kd.R_lower ho0 (below_size (by repeat (first|(with_reducible first|exact HB.out|apply below_alloc|apply pw_below_drewN|apply below_drew1|refine below_set ?_ GE119.out)|exact HB.out))));have n1_:=Aside0.mk (blk_below (g:=gb119) (o:=.cells #[.int .i64 a0_0,.int .i64 a0_1,.int .i64 a0_2] 52 (0,0)) (by (with_reducible repeat (first|refine blk_drewN ?_ _|refine blk_drew ?_|refine blk_alloc ?_ _));exact BK119.out) hb);have n2_:=Aside0.mk (below_step (by repeat (first|(with_reducible first|exact HB.out|apply below_alloc|apply pw_below_drewN|apply below_drew1|refine below_set ?_ GE119.out)|exact HB.out)) hb);clear BK119;clear HB;have HO122:=n0_;have BK119:=n1_;have HB:=n2_;clear n0_ n1_ n2_;(try clear hb);(try clear hb2);(try clear hk);(try clear hi);(try clear ho0)))
       have n0_:=Aside0.mk (Kd.R_drew HO122.out)
       have n1_:=Aside0.mk (blk_drew BK119.out)
       have n2_:=Aside0.mk (below_drew1 HB.out)
       clear HO122
       clear BK119
       clear HB
       have HO122:=n0_
       have BK119:=n1_
       have HB:=n2_
       clear n0_ n1_ n2_
       obtain ⟨Ao29,co29,eo29⟩:=Kd.R_slice HO122.out
       (first|subst eo29|(injection eo29 with f1_ f2_ f3_;have f4_:=f1_.symm;have f5_:=f3_.symm;clear f1_ f2_ f3_;subst f4_;subst f5_))
       have p123:0≤(a0_0:Int):=of_decide_eq_true (by first|(with_reducible assumption)|assumption)
       have q123:a0_0<(t120.length:Int):=of_decide_eq_true (by first|(with_reducible assumption)|assumption)
       obtain ⟨ad123,e123,hx123_0⟩:=Kd.at_string (Kd.R_reads' HO122.out).2.2 a0_0 p123 q123
       cases e123
       replace p123:=eq_true p123
       replace q123:=eq_true q123
       refine start_ (n:=11) (S:=fun w'=>w'.cell? ⟨gb119,0,none⟩=some (.int .i64 a0_0)∧w'.cell? ⟨gb119,1,none⟩=some (.int .i64 a0_1)∧w'.cell? ⟨gb119,2,none⟩=some (.int .i64 a0_2)∧w'.cell? (ad123.add (a0_0).toNat)=some (.string (rdOf ByteArray.empty t120 a0_0))) (ds:=[]) #[false,false,false,false,false,false,false,false,false,false,false] (by kernel_rfl) rfl rfl ⟨(blk_cell BK119.out 0).trans rfl,(blk_cell BK119.out 1).trans rfl,(blk_cell BK119.out 2).trans rfl,hx123_0⟩ (fun hHeld=>?_);refine with_tabW spec_l4line.tab2 spec_l4line.bits2 (fun HT_ HW_=>?_)
       generalize w27.drew=w28 at HO122 BK119 HB hx123_0 hHeld ⊢
       refine pure_ (i:=0) (N:=some 6) (v:=?_) (a':=?_) #[true,false,false,false,false,false,false,false,false,false,false] rfl rfl (any_of HT_.out (by kernel_rfl)) (fun _ _ _ h=>h) (Or.inl ⟨by rfl,?_⟩) ?_ ?_
       rotate_left
       ·intro w'
        go_simp
        with_reducible rfl
       rotate_left
       ·simp only [Act.put,List.setIfInBounds_toArray,List.set_cons_zero,List.set_cons_succ,i64_w,i32_w]
        rfl
       refine pure_ (i:=1) (N:=some 7) (v:=?_) (a':=?_) #[true,true,false,false,false,false,false,false,false,false,false] rfl rfl (any_of HT_.out (by kernel_rfl)) (fun _ _ _ h=>h) (Or.inl ⟨by rfl,?_⟩) ?_ ?_
       rotate_left
       ·intro w'
        go_simp
        with_reducible rfl
       rotate_left
       ·simp only [Act.put,List.setIfInBounds_toArray,List.set_cons_zero,List.set_cons_succ,i64_w,i32_w]
        rfl
       refine pure_ (i:=6) (N:=some 12) (v:=?_) (a':=?_) #[true,true,false,false,false,false,true,false,false,false,false] rfl rfl (any_of HT_.out (by kernel_rfl)) (fun _ _ _ h=>h) (Or.inl ⟨by rfl,?_⟩) ?_ ?_
       rotate_left
       ·intro w'
        go_simp
        with_reducible rfl
       rotate_left
       ·simp only [Act.put,List.setIfInBounds_toArray,List.set_cons_zero,List.set_cons_succ,i64_w,i32_w]
        rfl
       refine take_ (i:=2) (N:=some 8) (v:=?_) (a':=?_) #[true,true,true,false,false,false,true,false,false,false,false] rfl rfl (take_ofW HT_.out HW_.out (by kernel_rfl)) (fun _ _ _ h=>h) (Or.inl ⟨by rfl,?_⟩) hHeld ?_ ?_
       rotate_left
       ·rintro w' ⟨s0,s1,s2,s3⟩
        go_simp
        with_reducible rfl
       rotate_left
       ·simp only [Act.put,List.setIfInBounds_toArray,List.set_cons_zero,List.set_cons_succ,i64_w,i32_w]
        rfl
       refine pure_ (i:=3) (N:=some 9) (v:=?_) (a':=?_) #[true,true,true,true,false,false,true,false,false,false,false] rfl rfl (any_of HT_.out (by kernel_rfl)) (fun _ _ _ h=>h) (Or.inl ⟨by rfl,?_⟩) ?_ ?_
       rotate_left
       ·intro w'
        go_simp
        with_reducible rfl
       rotate_left
       ·simp only [Act.put,List.setIfInBounds_toArray,List.set_cons_zero,List.set_cons_succ,i64_w,i32_w]
        rfl
       refine take_ (i:=4) (N:=some 10) (v:=?_) (a':=?_) #[true,true,true,true,true,false,true,false,false,false,false] rfl rfl (take_ofW HT_.out HW_.out (by kernel_rfl)) (fun _ _ _ h=>h) (Or.inl ⟨by rfl,?_⟩) hHeld ?_ ?_
       rotate_left
       ·rintro w' ⟨s0,s1,s2,s3⟩
        go_simp
        with_reducible rfl
       rotate_left
       ·simp only [Act.put,List.setIfInBounds_toArray,List.set_cons_zero,List.set_cons_succ,i64_w,i32_w]
        rfl
       refine pure_ (i:=5) (N:=some 11) (v:=?_) (a':=?_) #[true,true,true,true,true,true,true,false,false,false,false] rfl rfl (any_of HT_.out (by kernel_rfl)) (fun _ _ _ h=>h) (Or.inl ⟨by rfl,?_⟩) ?_ ?_
       rotate_left
       ·intro w'
        go_simp
        with_reducible rfl
       rotate_left
       ·simp only [Act.put,List.setIfInBounds_toArray,List.set_cons_zero,List.set_cons_succ,i64_w,i32_w]
        rfl
       refine take_ (i:=7) (N:=some 13) (v:=?_) (a':=?_) #[true,true,true,true,true,true,true,true,false,false,false] rfl rfl (take_ofW HT_.out HW_.out (by kernel_rfl)) (fun _ _ _ h=>h) (Or.inl ⟨by rfl,?_⟩) hHeld ?_ ?_
       rotate_left
       ·rintro w' ⟨s0,s1,s2,s3⟩
        go_simp
        with_reducible rfl
       rotate_left
       ·simp only [Act.put,List.setIfInBounds_toArray,List.set_cons_zero,List.set_cons_succ,i64_w,i32_w]
        rfl
       refine one_ (i:=8) (N:=some 14) #[true,true,true,true,true,true,true,true,true,false,false] rfl rfl (one_of HT_.out (by kernel_rfl)) (by decide) (fun K hK=>?_)
       refine goes_ Tryd.func44 (by kernel_rfl) rfl #[.int .i64 a0_1] (by rfl) rfl rfl (by (try simp only [List.map_toArray,List.map_cons,List.map_nil]);first|done|rfl|(simp only [List.length_drop,List.length_take];rfl)) ?_
       with_reducible refine (spec_l4decimal.calls a0_1 t124 _ A6.out).mono ?_
       rintro e w30 ⟨rfl,hb⟩
       have HS3_:=(hb.cell (World.block_lt_of_cell? _ _ (hHeld.2.2.2))).trans (hHeld.2.2.2)
       refine ⟨_,rfl,?_⟩
       have n0_:=Aside0.mk (Kd.R_below (by (with_reducible repeat (first|apply Kd.R_alloc|apply Kd.R_drewN|apply Kd.R_drew));exact HO122.out) hb)
       have n1_:=Aside0.mk (blk_below (g:=gb119) (o:=.cells #[.int .i64 a0_0,.int .i64 a0_1,.int .i64 a0_2] 52 (0,0)) (by (with_reducible repeat (first|refine blk_drewN ?_ _|refine blk_drew ?_|refine blk_alloc ?_ _));exact BK119.out) hb)
       have n2_:=Aside0.mk (below_step (by repeat (first|(with_reducible first|exact HB.out|apply below_alloc|apply pw_below_drewN|apply below_drew1|refine below_set ?_ GE119.out)|exact HB.out)) hb)
       clear HO122
       clear BK119
       clear HB
       have HO122:=n0_
       have BK119:=n1_
       have HB:=n2_
       clear n0_ n1_ n2_
       (try clear hb)
       (try clear hb2)
       (try clear hk)
       (try clear hi)
       refine hK.out _ _ ⟨(blk_cell BK119.out 0).trans rfl,(blk_cell BK119.out 1).trans rfl,(blk_cell BK119.out 2).trans rfl,HS3_⟩ (fun hHeld=>?_)
       clear hK K
       refine norm_ (a':=?_) ?_ ?_
       rotate_left
       ·show Act.put _ (some 14) _=_
        simp only [Act.put,List.setIfInBounds_toArray,List.set_cons_zero,List.set_cons_succ,i64_w,i32_w]
        rfl
       refine pure_ (i:=9) (N:=some 15) (v:=?_) (a':=?_) #[true,true,true,true,true,true,true,true,true,true,false] rfl rfl (any_of HT_.out (by kernel_rfl)) (fun _ _ _ h=>h) (Or.inl ⟨by rfl,?_⟩) ?_ ?_
       rotate_left
       ·intro w'
        go_simp
        with_reducible rfl
       rotate_left
       ·simp only [Act.put,List.setIfInBounds_toArray,List.set_cons_zero,List.set_cons_succ,i64_w,i32_w]
        rfl
       refine pure_ (i:=10) (N:=some 4) (v:=?_) (a':=?_) #[true,true,true,true,true,true,true,true,true,true,true] rfl rfl (any_of HT_.out (by kernel_rfl)) (fun _ _ _ h=>h) (Or.inl ⟨by rfl,?_⟩) ?_ ?_
       rotate_left
       ·intro w'
        go_simp
        with_reducible rfl
       rotate_left
       ·simp only [Act.put,List.setIfInBounds_toArray,List.set_cons_zero,List.set_cons_succ,i64_w,i32_w]
        rfl
       refine done_ (done_of HT_.out (by kernel_rfl)) ?_
       have hcz31_0:w30.cell? ⟨gb119,0,none⟩=some (.int .i64 a0_0):=(blk_cell BK119.out 0).trans rfl
       have hcz31_1:w30.cell? ⟨gb119,1,none⟩=some (.int .i64 a0_1):=(blk_cell BK119.out 1).trans rfl
       have hcz31_2:w30.cell? ⟨gb119,2,none⟩=some (.int .i64 a0_2):=(blk_cell BK119.out 2).trans rfl
       have hfz31_0:=blk_frozen BK119.out 0
       have hfz31_1:=blk_frozen BK119.out 1
       have hfz31_2:=blk_frozen BK119.out 2
       try go_wp2
       go_ret
       exact ⟨by first|rfl|(simp [errW_none,errW_some] <;> rfl)|(simp [*,errW_none,errW_some] <;> rfl),by repeat (first|(with_reducible first|exact HB.out|apply below_alloc|apply pw_below_drewN|apply below_drew1|refine below_set ?_ GE119.out)|exact HB.out)⟩
      rw [if_neg c25] at H
      exact absurd H (by simp)
     rw [if_neg c24] at H
     have c24b0:decide (a0_2<0)=false:=decide_eq_false c24
     clear c24
     obtain rfl:=Option.some.inj H
     go_enter Tryd.func27,Tryd.ntmps27
     try go_wp2_with (first|((with_reducible refine gate_dst (N:=1) rfl ?_);refine box_event ?hg (N:=1) ?hd (cs:=#[.int .i64 a0_0,.int .i64 a0_1,.int .i64 a0_2]) (t:=52) ?hr ?_;(case hd=>rfl);(case hg=>rfl);(case hr=>first|(go_simp;done)|(go_simp;rfl));intro gb119 hg w32 hbox hb;have n0_:=Aside0.mk (below_step (by repeat (first|(with_reducible first|exact HB.out|apply below_alloc|apply pw_below_drewN|apply below_drew1)|exact HB.out)) hb);have n1_:=Aside0.mk (hbox);have n2_:=Aside0.mk ((by rw [hg];exact (below_size (by repeat (first|(with_reducible first|exact HB.out|apply below_alloc|apply pw_below_drewN|apply below_drew1)|exact HB.out))):w.heap.size≤gb119));have n3_:=Aside0.mk ((by rw [hg];exact (below_size (by repeat (first|(with_reducible first|exact HB.out|apply below_alloc|apply pw_below_drewN|apply below_drew1)|exact HB.out))):w.heap.size≤gb119));clear HB;have HB:=n0_;have BK119:=n1_;have GW119:=n2_;have GE119:=n3_;clear n0_ n1_ n2_ n3_;clear hb hbox hg)|((with_reducible refine gate_callee (f:=52) rfl ?_);refine goesL_ (some 5) rfl rfl Tryd.func52 (by kernel_rfl) rfl #[] rfl (by (try simp only [List.map_toArray,List.map_cons,List.map_nil]);first|done|rfl|(simp only [List.length_drop,List.length_take];rfl)) ?_;(with_reducible refine (spec_l4words.calls  t120 _ A2.out).mono ?_);rintro e w33 ⟨v121,rfl,ho0,hb⟩;refine ⟨_,rfl,?_⟩;have n0_:=Aside0.mk (Kd.R_lower ho0 (below_size (by repeat (first|(with_reducible first|exact HB.out|apply below_alloc|apply pw_below_drewN|apply below_drew1|refine below_set ?_ GE119.out)|exact HB.out))));have n1_:=Aside0.mk (blk_below (g:=gb119) (o:=.cells #[.int .i64 a0_0,.int .i64 a0_1,.int .i64 a0_2] 52 (0,0)) (by (with_reducible repeat (first|refine blk_drewN ?_ _|refine blk_drew ?_|refine blk_alloc ?_ _));exact BK119.out) hb);have n2_:=Aside0.mk (below_step (by repeat (first|(with_reducible first|exact HB.out|apply below_alloc|apply pw_below_drewN|apply below_drew1|refine below_set ?_ GE119.out)|exact HB.out)) hb);clear BK119;clear HB;have HO122:=n0_;have BK119:=n1_;have HB:=n2_;clear n0_ n1_ n2_;(try clear hb);(try clear hb2);(try clear hk);(try clear hi);(try clear ho0)))
     have n0_:=Aside0.mk (Kd.R_drew HO122.out)
     have n1_:=Aside0.mk (blk_drew BK119.out)
     have n2_:=Aside0.mk (below_drew1 HB.out)
     clear HO122
     clear BK119
     clear HB
     have HO122:=n0_
     have BK119:=n1_
     have HB:=n2_
     clear n0_ n1_ n2_
     obtain ⟨Ao35,co35,eo35⟩:=Kd.R_slice HO122.out
     (first|subst eo35|(injection eo35 with f1_ f2_ f3_;have f4_:=f1_.symm;have f5_:=f3_.symm;clear f1_ f2_ f3_;subst f4_;subst f5_))
     have p123:0≤(a0_0:Int):=of_decide_eq_true (by first|(with_reducible assumption)|assumption)
     have q123:a0_0<(t120.length:Int):=of_decide_eq_true (by first|(with_reducible assumption)|assumption)
     obtain ⟨ad123,e123,hx123_0⟩:=Kd.at_string (Kd.R_reads' HO122.out).2.2 a0_0 p123 q123
     cases e123
     replace p123:=eq_true p123
     replace q123:=eq_true q123
     refine start_ (n:=11) (S:=fun w'=>w'.cell? ⟨gb119,0,none⟩=some (.int .i64 a0_0)∧w'.cell? ⟨gb119,1,none⟩=some (.int .i64 a0_1)∧w'.cell? ⟨gb119,2,none⟩=some (.int .i64 a0_2)∧w'.cell? (ad123.add (a0_0).toNat)=some (.string (rdOf ByteArray.empty t120 a0_0))) (ds:=[]) #[false,false,false,false,false,false,false,false,false,false,false] (by kernel_rfl) rfl rfl ⟨(blk_cell BK119.out 0).trans rfl,(blk_cell BK119.out 1).trans rfl,(blk_cell BK119.out 2).trans rfl,hx123_0⟩ (fun hHeld=>?_);refine with_tabW spec_l4line.tab2 spec_l4line.bits2 (fun HT_ HW_=>?_)
     generalize w33.drew=w34 at HO122 BK119 HB hx123_0 hHeld ⊢
     refine pure_ (i:=0) (N:=some 6) (v:=?_) (a':=?_) #[true,false,false,false,false,false,false,false,false,false,false] rfl rfl (any_of HT_.out (by kernel_rfl)) (fun _ _ _ h=>h) (Or.inl ⟨by rfl,?_⟩) ?_ ?_
     rotate_left
     ·intro w'
      go_simp
      with_reducible rfl
     rotate_left
     ·simp only [Act.put,List.setIfInBounds_toArray,List.set_cons_zero,List.set_cons_succ,i64_w,i32_w]
      rfl
     refine pure_ (i:=1) (N:=some 7) (v:=?_) (a':=?_) #[true,true,false,false,false,false,false,false,false,false,false] rfl rfl (any_of HT_.out (by kernel_rfl)) (fun _ _ _ h=>h) (Or.inl ⟨by rfl,?_⟩) ?_ ?_
     rotate_left
     ·intro w'
      go_simp
      with_reducible rfl
     rotate_left
     ·simp only [Act.put,List.setIfInBounds_toArray,List.set_cons_zero,List.set_cons_succ,i64_w,i32_w]
      rfl
     refine pure_ (i:=6) (N:=some 12) (v:=?_) (a':=?_) #[true,true,false,false,false,false,true,false,false,false,false] rfl rfl (any_of HT_.out (by kernel_rfl)) (fun _ _ _ h=>h) (Or.inl ⟨by rfl,?_⟩) ?_ ?_
     rotate_left
     ·intro w'
      go_simp
      with_reducible rfl
     rotate_left
     ·simp only [Act.put,List.setIfInBounds_toArray,List.set_cons_zero,List.set_cons_succ,i64_w,i32_w]
      rfl
     refine take_ (i:=2) (N:=some 8) (v:=?_) (a':=?_) #[true,true,true,false,false,false,true,false,false,false,false] rfl rfl (take_ofW HT_.out HW_.out (by kernel_rfl)) (fun _ _ _ h=>h) (Or.inl ⟨by rfl,?_⟩) hHeld ?_ ?_
     rotate_left
     ·rintro w' ⟨s0,s1,s2,s3⟩
      go_simp
      with_reducible rfl
     rotate_left
     ·simp only [Act.put,List.setIfInBounds_toArray,List.set_cons_zero,List.set_cons_succ,i64_w,i32_w]
      rfl
     refine pure_ (i:=3) (N:=some 9) (v:=?_) (a':=?_) #[true,true,true,true,false,false,true,false,false,false,false] rfl rfl (any_of HT_.out (by kernel_rfl)) (fun _ _ _ h=>h) (Or.inl ⟨by rfl,?_⟩) ?_ ?_
     rotate_left
     ·intro w'
      go_simp
      with_reducible rfl
     rotate_left
     ·simp only [Act.put,List.setIfInBounds_toArray,List.set_cons_zero,List.set_cons_succ,i64_w,i32_w]
      rfl
     refine take_ (i:=4) (N:=some 10) (v:=?_) (a':=?_) #[true,true,true,true,true,false,true,false,false,false,false] rfl rfl (take_ofW HT_.out HW_.out (by kernel_rfl)) (fun _ _ _ h=>h) (Or.inl ⟨by rfl,?_⟩) hHeld ?_ ?_
     rotate_left
     ·rintro w' ⟨s0,s1,s2,s3⟩
      go_simp
      with_reducible rfl
     rotate_left
     ·simp only [Act.put,List.setIfInBounds_toArray,List.set_cons_zero,List.set_cons_succ,i64_w,i32_w]
      rfl
     refine pure_ (i:=5) (N:=some 11) (v:=?_) (a':=?_) #[true,true,true,true,true,true,true,false,false,false,false] rfl rfl (any_of HT_.out (by kernel_rfl)) (fun _ _ _ h=>h) (Or.inl ⟨by rfl,?_⟩) ?_ ?_
     rotate_left
     ·intro w'
      go_simp
      with_reducible rfl
     rotate_left
     ·simp only [Act.put,List.setIfInBounds_toArray,List.set_cons_zero,List.set_cons_succ,i64_w,i32_w]
      rfl
     refine take_ (i:=7) (N:=some 13) (v:=?_) (a':=?_) #[true,true,true,true,true,true,true,true,false,false,false] rfl rfl (take_ofW HT_.out HW_.out (by kernel_rfl)) (fun _ _ _ h=>h) (Or.inl ⟨by rfl,?_⟩) hHeld ?_ ?_
     rotate_left
     ·rintro w' ⟨s0,s1,s2,s3⟩
      go_simp
      with_reducible rfl
     rotate_left
     ·simp only [Act.put,List.setIfInBounds_toArray,List.set_cons_zero,List.set_cons_succ,i64_w,i32_w]
      rfl
     refine one_ (i:=8) (N:=some 14) #[true,true,true,true,true,true,true,true,true,false,false] rfl rfl (one_of HT_.out (by kernel_rfl)) (by decide) (fun K hK=>?_)
     refine goes_ Tryd.func44 (by kernel_rfl) rfl #[.int .i64 a0_1] (by rfl) rfl rfl (by (try simp only [List.map_toArray,List.map_cons,List.map_nil]);first|done|rfl|(simp only [List.length_drop,List.length_take];rfl)) ?_
     with_reducible refine (spec_l4decimal.calls a0_1 t124 _ A6.out).mono ?_
     rintro e w36 ⟨rfl,hb⟩
     have HS3_:=(hb.cell (World.block_lt_of_cell? _ _ (hHeld.2.2.2))).trans (hHeld.2.2.2)
     refine ⟨_,rfl,?_⟩
     have n0_:=Aside0.mk (Kd.R_below (by (with_reducible repeat (first|apply Kd.R_alloc|apply Kd.R_drewN|apply Kd.R_drew));exact HO122.out) hb)
     have n1_:=Aside0.mk (blk_below (g:=gb119) (o:=.cells #[.int .i64 a0_0,.int .i64 a0_1,.int .i64 a0_2] 52 (0,0)) (by (with_reducible repeat (first|refine blk_drewN ?_ _|refine blk_drew ?_|refine blk_alloc ?_ _));exact BK119.out) hb)
     have n2_:=Aside0.mk (below_step (by repeat (first|(with_reducible first|exact HB.out|apply below_alloc|apply pw_below_drewN|apply below_drew1|refine below_set ?_ GE119.out)|exact HB.out)) hb)
     clear HO122
     clear BK119
     clear HB
     have HO122:=n0_
     have BK119:=n1_
     have HB:=n2_
     clear n0_ n1_ n2_
     (try clear hb)
     (try clear hb2)
     (try clear hk)
     (try clear hi)
     refine hK.out _ _ ⟨(blk_cell BK119.out 0).trans rfl,(blk_cell BK119.out 1).trans rfl,(blk_cell BK119.out 2).trans rfl,HS3_⟩ (fun hHeld=>?_)
     clear hK K
     refine norm_ (a':=?_) ?_ ?_
     rotate_left
     ·show Act.put _ (some 14) _=_
      simp only [Act.put,List.setIfInBounds_toArray,List.set_cons_zero,List.set_cons_succ,i64_w,i32_w]
      rfl
     refine pure_ (i:=9) (N:=some 15) (v:=?_) (a':=?_) #[true,true,true,true,true,true,true,true,true,true,false] rfl rfl (any_of HT_.out (by kernel_rfl)) (fun _ _ _ h=>h) (Or.inl ⟨by rfl,?_⟩) ?_ ?_
     rotate_left
     ·intro w'
      go_simp
      with_reducible rfl
     rotate_left
     ·simp only [Act.put,List.setIfInBounds_toArray,List.set_cons_zero,List.set_cons_succ,i64_w,i32_w]
      rfl
     refine pure_ (i:=10) (N:=some 4) (v:=?_) (a':=?_) #[true,true,true,true,true,true,true,true,true,true,true] rfl rfl (any_of HT_.out (by kernel_rfl)) (fun _ _ _ h=>h) (Or.inl ⟨by rfl,?_⟩) ?_ ?_
     rotate_left
     ·intro w'
      go_simp
      with_reducible rfl
     rotate_left
     ·simp only [Act.put,List.setIfInBounds_toArray,List.set_cons_zero,List.set_cons_succ,i64_w,i32_w]
      rfl
     refine done_ (done_of HT_.out (by kernel_rfl)) ?_
     have hcz37_0:w36.cell? ⟨gb119,0,none⟩=some (.int .i64 a0_0):=(blk_cell BK119.out 0).trans rfl
     have hcz37_1:w36.cell? ⟨gb119,1,none⟩=some (.int .i64 a0_1):=(blk_cell BK119.out 1).trans rfl
     have hcz37_2:w36.cell? ⟨gb119,2,none⟩=some (.int .i64 a0_2):=(blk_cell BK119.out 2).trans rfl
     have hfz37_0:=blk_frozen BK119.out 0
     have hfz37_1:=blk_frozen BK119.out 1
     have hfz37_2:=blk_frozen BK119.out 2
     try go_wp2
     go_ret
     exact ⟨by first|rfl|(simp [errW_none,errW_some] <;> rfl)|(simp [*,errW_none,errW_some] <;> rfl),by repeat (first|(with_reducible first|exact HB.out|apply below_alloc|apply pw_below_drewN|apply below_drew1|refine below_set ?_ GE119.out)|exact HB.out)⟩
    rw [if_neg c7] at H
    exact absurd H (by simp)
   rw [if_neg c5] at H
   exact absurd H (by simp)
  rw [if_neg c4] at H
  exact absurd H (by simp)
 rw [if_neg c3] at H
 exact absurd H (by simp)
end Go.Proofs.YtpdnabhpkdchjaaDoor.P
namespace Go.Proofs.YtpdnabhpkdchjaaDoor.P
open Go Go.RowKit Go.Proofs.YtpdnabhpkdchjaaDoorW.PrintWords Go.Proofs.YtpdnabhpkdchjaaDoorW.PrintLast Go.Proofs.YtpdnabhpkdchjaaDoorW.PrintMore
set_option linter.unusedVariables false
set_option linter.unusedSimpArgs false
abbrev bs (l:List UInt8):ByteArray:=⟨l.toArray⟩
theorem bs_size (l:List UInt8):(bs l).size=l.length:=by simp [bs,ByteArray.size]
theorem bs_bytes (l:List UInt8):bytesOf (bs l)=l.map (fun b=>(b.toNat:Int)):=by simp [bytesOf,bs]
theorem nums_bs (l:List UInt8):strOfNums (l.map (fun b=>(b.toNat:Int)))=bs l:=by
 apply ByteArray.ext
 have h:(fun b:UInt8=>UInt8.ofNat ((b.toNat:Int)).toNat)=id:=by funext b;simp
 simp only [strOfNums,bs,List.map_map]
 rw [show ((fun n:Int=>UInt8.ofNat n.toNat) ∘ fun b:UInt8=>(b.toNat:Int))=id from h,List.map_id]
theorem words_eq (op:Int) (h:1≤op∧op≤5):rdOf ByteArray.empty [(⟨#[]⟩:ByteArray),(⟨#[112,97,115,115]⟩:ByteArray),(⟨#[103,104,111,115,116]⟩:ByteArray),(⟨#[100,101,97,100]⟩:ByteArray),(⟨#[97,108,105,118,101]⟩:ByteArray),(⟨#[114,101,115,101,116]⟩:ByteArray)] op=bs (wordB op.toNat):=by
 obtain rfl|rfl|rfl|rfl|rfl:op=1 ∨ op=2 ∨ op=3 ∨ op=4 ∨ op=5:=by omega
 all_goals rfl
theorem line_f {op of dir:Int} (h:1≤op∧op≤5) (ho:0≤of∧of≤119) (hd:-1≤dir∧dir≤1):spec_l4line.f op of dir=some (bs (wordB op.toNat ++ [32] ++ Lib.decDigits of.toNat ++ dirB dir)):=by
 have e1:spec_l4decimal.f of=some (bs (Lib.decDigits of.toNat)):=if_pos ⟨ho.1,by omega⟩
 have hw:=word_len op.toNat
 have hg:=digits_len of.toNat
 unfold spec_l4line.f
 rw [show spec_l4words.f=some _ from rfl,Option.bind_some,if_pos (by omega),if_pos (by show op<((6:Nat):Int);omega),words_eq op h,if_pos (by rw [bs_size];omega),e1,Option.bind_some]
 have a1:bs (wordB op.toNat) ++ (⟨#[32]⟩:ByteArray)=bs (wordB op.toNat ++ [32]):=bytes_app _ [32]
 have a2:bs (wordB op.toNat ++ [32]) ++ bs (Lib.decDigits of.toNat)=bs (wordB op.toNat ++ [32] ++ Lib.decDigits of.toNat):=bytes_app _ _
 rw [a1,if_pos (by rw [bs_size,bs_size,List.length_append,List.length_singleton];omega),a2]
 have sz:(bs (wordB op.toNat ++ [32] ++ Lib.decDigits of.toNat)).size+2≤9223372036854775807:=by rw [bs_size];simp only [List.length_append,List.length_singleton];omega
 obtain rfl|rfl|rfl:dir=1 ∨ dir=-1 ∨ dir=0:=by omega
 ·rw [if_pos (by omega),if_pos sz,if_neg (by omega)]
  exact congrArg some (bytes_app _ [32,43])
 ·rw [if_neg (by omega),if_pos (by omega),if_pos sz]
  exact congrArg some (bytes_app _ [32,45])
 rw [if_neg (by omega),if_neg (by omega)]
 simp [dirB]
end Go.Proofs.YtpdnabhpkdchjaaDoor.P
namespace Go.Proofs.YtpdnabhpkdchjaaDoor.P
open Go Go.RowKit Go.Proofs.YtpdnabhpkdchjaaDoorW.PrintWords Go.Proofs.YtpdnabhpkdchjaaDoorW.PrintLast Go.Proofs.YtpdnabhpkdchjaaDoorW.PrintMore
set_option linter.unusedVariables false
set_option linter.unusedSimpArgs false
def numOf (l:List UInt8):Nat:=l.foldl (fun a b=>a * 10+(b.toNat - 48)) 0
theorem numOf_digits (n:Nat):numOf (Lib.decDigits n)=n:=by
 induction n using Nat.strongRecOn with
 | ind n ih =>
  rw [Lib.decDigits]
  by_cases h:n<10
  ·rw [dif_pos h]
   show 0 * 10+((UInt8.ofNat (48+n)).toNat - 48)=n
   rw [UInt8.toNat_ofNat']
   omega
  rw [dif_neg h]
  have:=ih (n / 10) (by omega)
  unfold numOf at this ⊢
  rw [List.foldl_append,this]
  show n / 10 * 10+((UInt8.ofNat (48+n % 10)).toNat - 48)=n
  rw [UInt8.toNat_ofNat']
  omega
theorem digits_inj {a b:Nat} (h:Lib.decDigits a=Lib.decDigits b):a=b:=by
 rw [← numOf_digits a,← numOf_digits b,h]
theorem digits_plain (n:Nat):∀ x ∈ Lib.decDigits n,48≤x.toNat∧x.toNat≤57:=by
 induction n using Nat.strongRecOn with
 | ind n ih =>
  rw [Lib.decDigits]
  by_cases h:n<10
  ·rw [dif_pos h]
   intro x hx
   obtain rfl:x=UInt8.ofNat (48+n):=by simpa using hx
   rw [UInt8.toNat_ofNat']
   omega
  rw [dif_neg h]
  intro x hx
  rcases List.mem_append.1 hx with hx|hx
  ·exact ih (n / 10) (by omega) x hx
  obtain rfl:x=UInt8.ofNat (48+n % 10):=by simpa using hx
  rw [UInt8.toNat_ofNat']
  omega
def lineN (op of dir:Int):List UInt8:=wordB op.toNat ++ [32] ++ Lib.decDigits of.toNat ++ dirB dir
theorem take_upto {a b c:List UInt8} (ha:∀ x ∈ a,x ≠ 32) (h:b=[] ∨ ∃ r,b=32 :: r):(a ++ b).takeWhile (· != 32)=a:=by
 induction a with
 | nil =>
  rcases h with rfl|⟨r,rfl⟩
  ·rfl
  simp [List.takeWhile]
 | cons x a ih =>
  have hx:=ha x List.mem_cons_self
  rw [List.cons_append,List.takeWhile_cons,if_pos (by simpa using hx),ih (fun y hy=>ha y (List.mem_cons_of_mem _ hy))]
theorem word_plain {op:Int} (h:1≤op∧op≤5):∀ x ∈ wordB op.toNat,x ≠ 32∧x ≠ 10:=by
 obtain rfl|rfl|rfl|rfl|rfl:op=1 ∨ op=2 ∨ op=3 ∨ op=4 ∨ op=5:=by omega
 all_goals decide
theorem word_inj {a b:Int} (ha:1≤a∧a≤5) (hb:1≤b∧b≤5) (h:wordB a.toNat=wordB b.toNat):a=b:=by
 obtain rfl|rfl|rfl|rfl|rfl:a=1 ∨ a=2 ∨ a=3 ∨ a=4 ∨ a=5:=by omega
 all_goals
  obtain rfl|rfl|rfl|rfl|rfl:b=1 ∨ b=2 ∨ b=3 ∨ b=4 ∨ b=5:=by omega
  all_goals first|rfl|(exfalso;revert h;decide)
theorem dir_form (d:Int):dirB d=[] ∨ ∃ r,dirB d=32 :: r:=by
 unfold dirB
 split
 ·exact .inr ⟨_,rfl⟩
 split
 ·exact .inr ⟨_,rfl⟩
 exact .inl rfl
theorem dir_inj {a b:Int} (ha:-1≤a∧a≤1) (hb:-1≤b∧b≤1) (h:dirB a=dirB b):a=b:=by
 obtain rfl|rfl|rfl:a=1 ∨ a=-1 ∨ a=0:=by omega
 all_goals
  obtain rfl|rfl|rfl:b=1 ∨ b=-1 ∨ b=0:=by omega
  all_goals first|rfl|(exfalso;revert h;decide)
theorem line_inj {o1 f1 d1 o2 f2 d2:Int} (ho1:1≤o1∧o1≤5) (ho2:1≤o2∧o2≤5) (hf1:0≤f1) (hf2:0≤f2) (hd1:-1≤d1∧d1≤1) (hd2:-1≤d2∧d2≤1) (h:lineN o1 f1 d1=lineN o2 f2 d2):o1=o2∧f1=f2∧d1=d2:=by
 unfold lineN at h
 simp only [List.append_assoc] at h
 have t1:=take_upto (c:=[]) (b:=[32] ++ (Lib.decDigits f1.toNat ++ dirB d1)) (fun x hx=>(word_plain ho1 x hx).1) (.inr ⟨_,rfl⟩)
 have t2:=take_upto (c:=[]) (b:=[32] ++ (Lib.decDigits f2.toNat ++ dirB d2)) (fun x hx=>(word_plain ho2 x hx).1) (.inr ⟨_,rfl⟩)
 have hw:wordB o1.toNat=wordB o2.toNat:=by rw [← t1,← t2,h]
 have e1:=word_inj ho1 ho2 hw
 rw [hw] at h
 have h2:=List.append_cancel_left (List.append_cancel_left h)
 have p:∀ (f:Int),∀ x ∈ Lib.decDigits f.toNat,x ≠ 32:=by
  intro f x hx hc
  have:=(digits_plain _ x hx).1
  rw [hc] at this
  revert this
  decide
 have u1:=take_upto (c:=[]) (p f1) (dir_form d1)
 have u2:=take_upto (c:=[]) (p f2) (dir_form d2)
 have hg:Lib.decDigits f1.toNat=Lib.decDigits f2.toNat:=by rw [← u1,← u2,h2]
 have e2:=digits_inj hg
 rw [hg] at h2
 exact ⟨e1,by omega,dir_inj hd1 hd2 (List.append_cancel_left h2)⟩
def Tells (n:Int) (l:List S98) (s:List UInt8) (e:S52):Prop:=eventOk n l e.f0 e.f1 e.f2=true∧lineN e.f0 e.f1 e.f2=s
theorem Tells.one {n:Int} {l:List S98} {s:List UInt8} {e f:S52} (h:Tells n l s e) (k:Tells n l s f):e=f:=by
 have a:=ev_parts h.1
 have b:=ev_parts k.1
 obtain ⟨h1,h2,h3⟩:=line_inj a.2.1 b.2.1 a.2.2.1.1 b.2.2.1.1 a.2.2.2.1 b.2.2.2.1 (h.2.trans k.2.symm)
 cases e;cases f
 simp_all
open Classical in
noncomputable def evOf (n:Int) (l:List S98) (s:List UInt8):Option S52:=if h:∃ e,Tells n l s e then some h.choose else none
theorem evOf_some {n:Int} {l:List S98} {s:List UInt8} {e:S52} (h:Tells n l s e):evOf n l s=some e:=by
 have hx:∃ e,Tells n l s e:=⟨e,h⟩
 rw [evOf,dif_pos hx,hx.choose_spec.one h]
theorem evOf_none {n:Int} {l:List S98} {s:List UInt8} (h:∀ e,¬ Tells n l s e):evOf n l s=none:=by
 rw [evOf,dif_neg (fun ⟨e,he⟩=>h e he)]
noncomputable def evRes (n:Int) (l:List S98) (s:List UInt8):Int × Int × Int × Bool:=match evOf n l s with|some e=>(e.f0,e.f1,e.f2,true)|none=>(0,0,0,false)
theorem evRes_some {n:Int} {l:List S98} {s:List UInt8} {e:S52} (h:Tells n l s e):evRes n l s=(e.f0,e.f1,e.f2,true):=by rw [evRes,evOf_some h]
theorem evRes_none {n:Int} {l:List S98} {s:List UInt8} (h:∀ e,¬ Tells n l s e):evRes n l s=(0,0,0,false):=by rw [evRes,evOf_none h]
def most (n:Int) (l:List S98):Int:=if n > (l.length:Int) then n else (l.length:Int)
theorem ev_most {n:Int} {l:List S98} {op of dir:Int} (h:eventOk n l op of dir=true):of<most n l∧most n l≤120:=by
 have hl:=(ev_parts h).1
 have hn:=lay_n hl
 unfold eventOk at h
 rw [if_pos hl] at h
 unfold most
 split at h
 ·simp at h;split <;> omega
 split at h
 ·simp at h;split <;> omega
 split at h
 ·simp at h;split <;> omega
 cases h
end Go.Proofs.YtpdnabhpkdchjaaDoor.P
namespace Go.Proofs.YtpdnabhpkdchjaaDoor.P
open Go.RowKit Go.Proofs.YtpdnabhpkdchjaaDoorW.PrintWords Go.Proofs.YtpdnabhpkdchjaaDoorW.PrintLast Go.Proofs.YtpdnabhpkdchjaaDoorW.PrintMore
attribute [local go_sem] max2_int min2_int max_two min_two max_three min_three max_four min_four
set_option linter.unusedVariables false
set_option linter.unusedSimpArgs false
mutual
def spec_l4event.j0:Nat→ByteArray→Int→Int→List (S98)→Option (Int × Int × Int × Bool)
 | 0,_,_,_,_=>none
 | k+1,x1,x6,x228000,x228001=>spec_l4event.l0 k x1 x6 1 x228000 x228001
def spec_l4event.l0:Nat→ByteArray→Int→Int→Int→List (S98)→Option (Int × Int × Int × Bool)
 | 0,_,_,_,_,_=>none
 | k+1,x1,x6,x7,x228000,x228001=>if x7≤5 then ((spec_l4words.f).bind fun t229=>(if 0≤x7 then (if x7<(t229.length:Int) then (if (rdOf ByteArray.empty t229 x7).size+1≤9223372036854775807 then (if (x1.size:Int)<(((rdOf ByteArray.empty t229 x7) ++ (⟨#[32]⟩:ByteArray)).size:Int) then (spec_l4event.j2 k x1 x6 x7 true x228000 x228001) else (if 0≤(((rdOf ByteArray.empty t229 x7) ++ (⟨#[32]⟩:ByteArray)).size:Int) then (if (((rdOf ByteArray.empty t229 x7) ++ (⟨#[32]⟩:ByteArray)).size:Int)≤(x1.size:Int) then (spec_l4event.j2 k x1 x6 x7 ((x1.extract 0 ((((rdOf ByteArray.empty t229 x7) ++ (⟨#[32]⟩:ByteArray)).size:Int):Int).toNat).toList != ((rdOf ByteArray.empty t229 x7) ++ (⟨#[32]⟩:ByteArray)).toList) x228000 x228001) else (none)) else (none))) else (none)) else (none)) else (none))) else (some (0,0,0,false))
def spec_l4event.j2:Nat→ByteArray→Int→Int→Bool→Int→List (S98)→Option (Int × Int × Int × Bool)
 | 0,_,_,_,_,_,_=>none
 | k+1,x1,x6,x7,x44,x228000,x228001=>if x44=true then (spec_l4event.l0 k x1 x6 (wrap64 (x7+1)) x228000 x228001) else (spec_l4event.l1 k x1 x6 x7 0 x228000 x228001)
def spec_l4event.l1:Nat→ByteArray→Int→Int→Int→Int→List (S98)→Option (Int × Int × Int × Bool)
 | 0,_,_,_,_,_,_=>none
 | k+1,x1,x6,x7,x10,x228000,x228001=>if x10<x6 then (spec_l4event.l2 k x1 x6 x7 x10 (-1) x228000 x228001) else (spec_l4event.l0 k x1 x6 (wrap64 (x7+1)) x228000 x228001)
def spec_l4event.l2:Nat→ByteArray→Int→Int→Int→Int→Int→List (S98)→Option (Int × Int × Int × Bool)
 | 0,_,_,_,_,_,_,_=>none
 | k+1,x1,x6,x7,x10,x11,x228000,x228001=>if x11≤1 then ((spec_EventOk.f k x228000 x228001 x7 x10 x11).bind fun t234=>(if t234=true then ((spec_l4line.f x7 x10 x11).bind fun t235=>(if t235.toList=x1.toList then (some (x7,x10,x11,true)) else (spec_l4event.l2 k x1 x6 x7 x10 (wrap64 (x11+1)) x228000 x228001))) else (spec_l4event.l2 k x1 x6 x7 x10 (wrap64 (x11+1)) x228000 x228001))) else (spec_l4event.l1 k x1 x6 x7 (wrap64 (x10+1)) x228000 x228001)
end
def spec_l4event.f (k:Nat) (a0_0:Int) (l0_1:List (S98)) (a1:ByteArray):Option (Int × Int × Int × Bool):=if a0_0 > (l0_1.length:Int) then (spec_l4event.j0 k a1 a0_0 a0_0 l0_1) else (spec_l4event.j0 k a1 (l0_1.length:Int) a0_0 l0_1)
set_option maxHeartbeats 8000000 in
set_option maxRecDepth 100000 in
theorem spec_l4event.calls (k:Nat) (a0_0:Int) (A0_1:Option Addr) (c0_1:Nat) (l0_1:List (S98)) (a1:ByteArray) (r1:Int) (r2:Int) (r3:Int) (r4:Bool) (w:World) (hr0_1:Kd.C k98 w A0_1 l0_1.length l0_1) (hc0_1:l0_1.length≤c0_1) (h:spec_l4event.f k a0_0 l0_1 a1=some (r1,r2,r3,r4)) :
  Calls Tryd.prog 39 #[.agg #[.int .i64 a0_0,.slice A0_1 l0_1.length c0_1],.string a1] w fun e w'=>e=.returned (.tuple #[.agg #[.int .i64 r1,.int .i64 r2,.int .i64 r3],.bool r4])∧Below w.heap.size w w':=by
 have hu31:=Tryd.underlying31
 have hu52:=Tryd.underlying52
 have HR0_1:=Aside0.mk hr0_1
 have HC0_1:=Aside0.mk hc0_1
 clear hr0_1 hc0_1
 have HB:=Aside0.mk (Below.refl w.heap.size w)
 have H:(if a0_0 > (l0_1.length:Int) then (spec_l4event.j0 k a1 a0_0 a0_0 l0_1) else (spec_l4event.j0 k a1 (l0_1.length:Int) a0_0 l0_1))=some (r1,r2,r3,r4):=h
 clear h
 have HC3:=Aside0.mk H
 clear H
 go_enter Tryd.func39,Tryd.ntmps39
 go_upto_if 19 with (first|((with_reducible refine gate_dst (N:=2) rfl ?_);(try (refine gate_guard (by rfl) ?_;dsimp only));refine box_event ?hg (N:=2) ?hd (cs:=#[.int .i64 a0_0,.slice A0_1 l0_1.length c0_1]) (t:=31) ?hr ?_;(case hd=>rfl);(case hg=>rfl);(case hr=>first|(go_simp;done)|(go_simp;rfl));intro gb227 hg w4 hbox hb;have n0_:=Aside0.mk (below_step (by repeat (first|(with_reducible first|exact HB.out|apply below_alloc|apply pw_below_drewN|apply below_drew1)|exact HB.out)) hb);have n1_:=Aside0.mk (hbox);have n2_:=Aside0.mk ((by rw [hg];exact (below_size (by repeat (first|(with_reducible first|exact HB.out|apply below_alloc|apply pw_below_drewN|apply below_drew1)|exact HB.out))):w.heap.size≤gb227));have n3_:=Aside0.mk ((by rw [hg];exact (below_size (by repeat (first|(with_reducible first|exact HB.out|apply below_alloc|apply pw_below_drewN|apply below_drew1)|exact HB.out))):w.heap.size≤gb227));clear HB;have HB:=n0_;have BK227:=n1_;have GW227:=n2_;have GE227:=n3_;clear n0_ n1_ n2_ n3_;clear hb hbox hg)|((with_reducible refine gate_dst (N:=4) rfl ?_);(try (refine gate_guard (by rfl) ?_;dsimp only));refine box_event ?hg (N:=4) ?hd (cs:=#[.int .i64 0,.int .i64 0,.int .i64 0]) (t:=52) ?hr ?_;(case hd=>rfl);(case hg=>rfl);(case hr=>first|(go_simp;done)|(go_simp;rfl));intro gb228 hg w5 hbox hb;have n0_:=Aside0.mk (blk_below (g:=gb227) (o:=.cells #[.int .i64 a0_0,.slice A0_1 l0_1.length c0_1] 31 (0,0)) (by (with_reducible repeat (first|refine blk_drewN ?_ _|refine blk_drew ?_|refine blk_alloc ?_ _));exact BK227.out) hb);have n1_:=Aside0.mk (below_step (by repeat (first|(with_reducible first|exact HB.out|apply below_alloc|apply pw_below_drewN|apply below_drew1|refine below_set ?_ GE227.out)|exact HB.out)) hb);have n2_:=Aside0.mk (hbox);have n3_:=Aside0.mk ((by rw [hg];exact (below_size (by repeat (first|(with_reducible first|exact HB.out|apply below_alloc|apply pw_below_drewN|apply below_drew1|refine below_set ?_ GE227.out)|exact HB.out))):w.heap.size≤gb228));have n4_:=Aside0.mk ((by rw [hg];exact (below_size (by repeat (first|(with_reducible first|exact HB.out|apply below_alloc|apply pw_below_drewN|apply below_drew1|refine below_set ?_ GE227.out)|exact HB.out))):w.heap.size≤gb228));have n5_:=Aside0.mk ((by rw [hg];exact Nat.ne_of_lt (blk_lt (g:=gb227) (o:=.cells #[.int .i64 a0_0,.slice A0_1 l0_1.length c0_1] 31 (0,0)) (by (with_reducible repeat (first|refine blk_drewN ?_ _|refine blk_drew ?_|refine blk_alloc ?_ _));exact BK227.out)):gb227 ≠ gb228));have n6_:=Aside0.mk ((by rw [hg];exact Nat.ne_of_gt (blk_lt (g:=gb227) (o:=.cells #[.int .i64 a0_0,.slice A0_1 l0_1.length c0_1] 31 (0,0)) (by (with_reducible repeat (first|refine blk_drewN ?_ _|refine blk_drew ?_|refine blk_alloc ?_ _));exact BK227.out)):gb228 ≠ gb227));clear BK227;clear HB;have BK227:=n0_;have HB:=n1_;have BK228:=n2_;have GW228:=n3_;have GE228:=n4_;have NB227_228:=n5_;have NB228_227:=n6_;clear n0_ n1_ n2_ n3_ n4_ n5_ n6_;clear hb hbox hg;have hnb6:=NB227_228.out;have hnc6:=NB228_227.out;have hcz7_0:w5.cell? ⟨gb227,0,none⟩=some (.int .i64 a0_0):=(blk_cell BK227.out 0).trans rfl;have hcz7_1:w5.cell? ⟨gb227,1,none⟩=some (.slice A0_1 l0_1.length c0_1):=(blk_cell BK227.out 1).trans rfl;have hfz7_0:=blk_frozen BK227.out 0;have hfz7_1:=blk_frozen BK227.out 1))
 (try simp only [Act.put,List.setIfInBounds_toArray,List.set_cons_zero,List.set_cons_succ])
 go_cut [6] (fun v6 wc=>∃ (kq:Nat) (x6_2:Int),v6=.int .i64 x6_2∧Aside0 (spec_l4event.j0 kq a1 x6_2 a0_0 l0_1=some (r1,r2,r3,r4))∧Aside0 (kq≤k)∧Aside0 (wc.heap[gb227]?=some (.cells #[.int .i64 a0_0,(.slice A0_1 l0_1.length c0_1)] 31 (0,0)))∧Aside0 (wc.heap[gb228]?=some (.cells #[.int .i64 0,.int .i64 0,.int .i64 0] 52 (0,0)))∧Aside0 (Below w.heap.size w wc))
 case first =>
  have H:=HC3.out
  clear HC3
  by_cases c8:a0_0 > (l0_1.length:Int)
  ·rw [if_pos c8] at H
   have c8b0:decide ((l0_1.length:Int)<a0_0)=true:=decide_eq_true c8
   clear c8
   (first|rw [c8b0]|(simp only [i64_w,i32_w];rw [c8b0])|skip)
   have H':=Aside0.mk H
   clear H
   have hnb9:=NB227_228.out
   have hnc9:=NB228_227.out
   have hcz10_0:w5.cell? ⟨gb227,0,none⟩=some (.int .i64 a0_0):=(blk_cell BK227.out 0).trans rfl
   have hcz10_1:w5.cell? ⟨gb227,1,none⟩=some (.slice A0_1 l0_1.length c0_1):=(blk_cell BK227.out 1).trans rfl
   have hfz10_0:=blk_frozen BK227.out 0
   have hfz10_1:=blk_frozen BK227.out 1
   go_wp2
   go_meet
   case rel=>exact ⟨_,(a0_0),(by first|rfl|(simp;done)|(simp [*];done)),H',⟨by first|omega|exact Nat.le_refl _⟩,⟨by (with_reducible repeat (first|refine blk_drewN ?_ _|refine blk_drew ?_|refine blk_alloc ?_ _));exact BK227.out⟩,⟨by (with_reducible repeat (first|refine blk_drewN ?_ _|refine blk_drew ?_|refine blk_alloc ?_ _));exact BK228.out⟩,⟨by repeat (first|(with_reducible first|exact HB.out|apply below_alloc|apply pw_below_drewN|apply below_drew1|refine below_set ?_ GE227.out|refine below_set ?_ GE228.out)|exact HB.out)⟩⟩
  rw [if_neg c8] at H
  have c8b0:decide ((l0_1.length:Int)<a0_0)=false:=decide_eq_false c8
  clear c8
  (first|rw [c8b0]|(simp only [i64_w,i32_w];rw [c8b0])|skip)
  have H':=Aside0.mk H
  clear H
  go_wp2
  go_meet
  case rel=>exact ⟨_,((l0_1.length:Int)),(by first|rfl|(simp;done)|(simp [*];done)),H',⟨by first|omega|exact Nat.le_refl _⟩,⟨by (with_reducible repeat (first|refine blk_drewN ?_ _|refine blk_drew ?_|refine blk_alloc ?_ _));exact BK227.out⟩,⟨by (with_reducible repeat (first|refine blk_drewN ?_ _|refine blk_drew ?_|refine blk_alloc ?_ _));exact BK228.out⟩,⟨by repeat (first|(with_reducible first|exact HB.out|apply below_alloc|apply pw_below_drewN|apply below_drew1|refine below_set ?_ GE227.out|refine below_set ?_ GE228.out)|exact HB.out)⟩⟩
 case rest =>
  clear HC3
  try clear p2
  try clear c3
  try clear c6
  try clear c8
  try clear c8b0
  try clear c9
  try clear hcz10_0
  try clear hcz10_1
  try clear hcz7_0
  try clear hcz7_1
  try clear hfz10_0
  try clear hfz10_1
  try clear hfz7_0
  try clear hfz7_1
  obtain ⟨kq,x6_2,rfl,HA,HJ2,BK227,BK228,HB⟩:=hcut
  cases kq with
  | zero=>exact absurd HA.out (by simp [spec_l4event.j0])
  | succ kj2 =>
   have H:=HA.out
   clear HA
   simp only [spec_l4event.j0] at H
   have H':=Aside0.mk H
   clear H
   go_wp2
   go_loopg [7] kj2 (fun kq v7 w'=>∃ (x7_2:Int) (x229000_2:Int) (x229001_2:Int) (x229002_2:Int),v7=.int .i64 x7_2∧Aside0 (spec_l4event.l0 kq a1 x6_2 x7_2 a0_0 l0_1=some (r1,r2,r3,r4))∧Aside0 (kq≤kj2)∧Aside0 (w'.heap[gb227]?=some (.cells #[.int .i64 a0_0,(.slice A0_1 l0_1.length c0_1)] 31 (0,0)))∧Aside0 (w'.heap[gb228]?=some (.cells #[.int .i64 x229000_2,.int .i64 x229001_2,.int .i64 x229002_2] 52 (0,0)))∧Aside0 (Below w.heap.size w w'))
   case atStart=>exact ⟨(1),(0),(0),(0),(by first|rfl|(simp;done)|(simp [*];done)),H',⟨Nat.le_refl _⟩,⟨by (with_reducible repeat (first|refine blk_drewN ?_ _|refine blk_drew ?_|refine blk_alloc ?_ _));exact BK227.out⟩,⟨by (with_reducible repeat (first|refine blk_drewN ?_ _|refine blk_drew ?_|refine blk_alloc ?_ _));exact BK228.out⟩,⟨by repeat (first|(with_reducible first|exact HB.out|apply below_alloc|apply pw_below_drewN|apply below_drew1|refine below_set ?_ GE227.out|refine below_set ?_ GE228.out)|exact HB.out)⟩⟩
   case round =>
    clear H'
    try clear p2
    try clear c3
    try clear c6
    try clear c8
    try clear c8b0
    try clear c9
    try clear hcz10_0
    try clear hcz10_1
    try clear hcz7_0
    try clear hcz7_1
    try clear hfz10_0
    try clear hfz10_1
    try clear hfz7_0
    try clear hfz7_1
    try clear p2
    obtain ⟨x7_2,x229000_2,x229001_2,x229002_2,rfl,HA,HK2,BK227,BK228,HB⟩:=hrel
    cases gk with
    | zero=>exact absurd HA.out (by simp [spec_l4event.l0])
    | succ k2 =>
     have H:=HA.out
     clear HA
     simp only [spec_l4event.l0] at H
     by_cases c11:x7_2≤5
     ·rw [if_pos c11] at H
      have c11b0:decide (x7_2≤5)=true:=decide_eq_true c11
      clear c11
      replace H:=Option.bind_eq_some_iff.mp H
      obtain ⟨t229,A120,H⟩:=H
      replace H:(if 0≤x7_2 then (if x7_2<(t229.length:Int) then (if (rdOf ByteArray.empty t229 x7_2).size+1≤9223372036854775807 then (if (a1.size:Int)<(((rdOf ByteArray.empty t229 x7_2) ++ (⟨#[32]⟩:ByteArray)).size:Int) then (spec_l4event.j2 k2 a1 x6_2 x7_2 true a0_0 l0_1) else (if 0≤(((rdOf ByteArray.empty t229 x7_2) ++ (⟨#[32]⟩:ByteArray)).size:Int) then (if (((rdOf ByteArray.empty t229 x7_2) ++ (⟨#[32]⟩:ByteArray)).size:Int)≤(a1.size:Int) then (spec_l4event.j2 k2 a1 x6_2 x7_2 ((a1.extract 0 ((((rdOf ByteArray.empty t229 x7_2) ++ (⟨#[32]⟩:ByteArray)).size:Int):Int).toNat).toList != ((rdOf ByteArray.empty t229 x7_2) ++ (⟨#[32]⟩:ByteArray)).toList) a0_0 l0_1) else (none)) else (none))) else (none)) else (none)) else (none))=some (r1,r2,r3,r4):=H
      have A12:=Aside0.mk A120
      clear A120
      by_cases c13:0≤x7_2
      ·rw [if_pos c13] at H
       have c13b0:decide (0≤x7_2)=true:=decide_eq_true c13
       clear c13
       by_cases c14:x7_2<(t229.length:Int)
       ·rw [if_pos c14] at H
        have c14b0:decide (x7_2<(t229.length:Int))=true:=decide_eq_true c14
        clear c14
        by_cases c15:(rdOf ByteArray.empty t229 x7_2).size+1≤9223372036854775807
        ·rw [if_pos c15] at H
         have c15b0:=eq_true c15
         have c15b1:decide ((rdOf ByteArray.empty t229 x7_2).size+1≤9223372036854775807)=true:=decide_eq_true c15
         try have c15b2:(9223372036854775807<(rdOf ByteArray.empty t229 x7_2).size+1)=False:=eq_false (Nat.not_lt.2 c15)
         have HC16:=Aside0.mk H
         clear H
         go_upto_region 9 with (first|((with_reducible refine gate_callee (f:=52) rfl ?_);refine goesL_ (some 26) rfl rfl Tryd.func52 (by kernel_rfl) rfl #[] rfl (by (try simp only [List.map_toArray,List.map_cons,List.map_nil]);first|done|rfl|(simp only [List.length_drop,List.length_take];rfl)) ?_;(with_reducible refine (spec_l4words.calls  t229 _ A12.out).mono ?_);rintro e w17 ⟨v230,rfl,ho0,hb⟩;refine ⟨_,rfl,?_⟩;have n0_:=Aside0.mk (Kd.R_lower ho0 (below_size (by repeat (first|(with_reducible first|exact HB.out|apply below_alloc|apply pw_below_drewN|apply below_drew1|refine below_set ?_ GE227.out|refine below_set ?_ GE228.out)|exact HB.out))));have n1_:=Aside0.mk (blk_below (g:=gb227) (o:=.cells #[.int .i64 a0_0,.slice A0_1 l0_1.length c0_1] 31 (0,0)) (by (with_reducible repeat (first|refine blk_drewN ?_ _|refine blk_drew ?_|refine blk_alloc ?_ _));exact BK227.out) hb);have n2_:=Aside0.mk (blk_below (g:=gb228) (o:=.cells #[.int .i64 x229000_2,.int .i64 x229001_2,.int .i64 x229002_2] 52 (0,0)) (by (with_reducible repeat (first|refine blk_drewN ?_ _|refine blk_drew ?_|refine blk_alloc ?_ _));exact BK228.out) hb);have n3_:=Aside0.mk (below_step (by repeat (first|(with_reducible first|exact HB.out|apply below_alloc|apply pw_below_drewN|apply below_drew1|refine below_set ?_ GE227.out|refine below_set ?_ GE228.out)|exact HB.out)) hb);clear BK227;clear BK228;clear HB;have HO231:=n0_;have BK227:=n1_;have BK228:=n2_;have HB:=n3_;clear n0_ n1_ n2_ n3_;(try clear hb);(try clear hb2);(try clear hk);(try clear hi);(try clear ho0);obtain ⟨Ao18,co18,eo18⟩:=Kd.R_slice HO231.out;subst eo18;have p232:0≤(x7_2:Int):=of_decide_eq_true (by first|(with_reducible assumption)|assumption);have q232:x7_2<(t229.length:Int):=of_decide_eq_true (by first|(with_reducible assumption)|assumption);obtain ⟨ad232,e232,hx232_0⟩:=Kd.at_string (Kd.R_reads' HO231.out).2.2 x7_2 p232 q232;cases e232;replace p232:=eq_true p232;replace q232:=eq_true q232))
         (try simp only [Act.put,List.setIfInBounds_toArray,List.set_cons_zero,List.set_cons_succ])
         go_cut [44] (fun v44 wc=>∃ (kq:Nat) (x44_15:Bool),v44=.bool x44_15∧Aside0 (spec_l4event.j2 kq a1 x6_2 x7_2 x44_15 a0_0 l0_1=some (r1,r2,r3,r4))∧Aside0 (kq≤k2)∧Aside0 (wc.heap[gb227]?=some (.cells #[.int .i64 a0_0,(.slice A0_1 l0_1.length c0_1)] 31 (0,0)))∧Aside0 (wc.heap[gb228]?=some (.cells #[.int .i64 x229000_2,.int .i64 x229001_2,.int .i64 x229002_2] 52 (0,0)))∧Aside0 (Below w.heap.size w wc))
         case first =>
          have H:=HC16.out
          clear HC16
          by_cases c19:(a1.size:Int)<(((rdOf ByteArray.empty t229 x7_2) ++ (⟨#[32]⟩:ByteArray)).size:Int)
          ·rw [if_pos c19] at H
           have c19n1:(a1.size:Int)<((rdOf ByteArray.empty t229 x7_2).size:Int)+1:=by have:=c19;rw [ByteArray.size_append] at this;have e:(⟨#[32]⟩:ByteArray).size=1:=rfl;omega
           have c19n2:decide ((a1.size:Int)<((rdOf ByteArray.empty t229 x7_2).size:Int)+1)=true:=decide_eq_true c19n1
           have c19n3:((a1.size:Int)<((rdOf ByteArray.empty t229 x7_2).size:Int)+1)=True:=eq_true c19n1
           clear c19n1
           have c19b0:decide ((a1.size:Int)<(((rdOf ByteArray.empty t229 x7_2) ++ (⟨#[32]⟩:ByteArray)).size:Int))=true:=decide_eq_true c19
           have c19b1:decide (a1.size<((rdOf ByteArray.empty t229 x7_2) ++ (⟨#[32]⟩:ByteArray)).size)=true:=decide_eq_true (Int.ofNat_lt.mp c19)
           clear c19
           (first|rw [c19b0]|(simp only [i64_w,i32_w];rw [c19b0])|skip)
           have H':=Aside0.mk H
           clear H
           go_wp2
           go_meet
           case rel=>exact ⟨_,(true),(by first|rfl|(simp;done)|(simp [*];done)),H',⟨by have:=HJ2.out;have:=HK2.out;first|omega|exact Nat.le_refl _⟩,⟨by (with_reducible repeat (first|refine blk_drewN ?_ _|refine blk_drew ?_|refine blk_alloc ?_ _));exact BK227.out⟩,⟨by (with_reducible repeat (first|refine blk_drewN ?_ _|refine blk_drew ?_|refine blk_alloc ?_ _));exact BK228.out⟩,⟨by repeat (first|(with_reducible first|exact HB.out|apply below_alloc|apply pw_below_drewN|apply below_drew1|refine below_set ?_ GE227.out|refine below_set ?_ GE228.out)|exact HB.out)⟩⟩
          rw [if_neg c19] at H
          have c19n1:¬ ((a1.size:Int)<((rdOf ByteArray.empty t229 x7_2).size:Int)+1):=by have:=c19;rw [ByteArray.size_append] at this;have e:(⟨#[32]⟩:ByteArray).size=1:=rfl;omega
          have c19n2:decide ((a1.size:Int)<((rdOf ByteArray.empty t229 x7_2).size:Int)+1)=false:=decide_eq_false c19n1
          have c19n3:((a1.size:Int)<((rdOf ByteArray.empty t229 x7_2).size:Int)+1)=False:=eq_false c19n1
          clear c19n1
          have c19b0:decide ((a1.size:Int)<(((rdOf ByteArray.empty t229 x7_2) ++ (⟨#[32]⟩:ByteArray)).size:Int))=false:=decide_eq_false c19
          have c19b1:decide (a1.size<((rdOf ByteArray.empty t229 x7_2) ++ (⟨#[32]⟩:ByteArray)).size)=false:=decide_eq_false (fun h=>c19 (Int.ofNat_lt.mpr h))
          clear c19
          (first|rw [c19b0]|(simp only [i64_w,i32_w];rw [c19b0])|skip)
          by_cases c20:0≤(((rdOf ByteArray.empty t229 x7_2) ++ (⟨#[32]⟩:ByteArray)).size:Int)
          ·rw [if_pos c20] at H
           have c20b0:=eq_true c20
           have c20b1:decide (0≤(((rdOf ByteArray.empty t229 x7_2) ++ (⟨#[32]⟩:ByteArray)).size:Int))=true:=decide_eq_true c20
           by_cases c21:(((rdOf ByteArray.empty t229 x7_2) ++ (⟨#[32]⟩:ByteArray)).size:Int)≤(a1.size:Int)
           ·rw [if_pos c21] at H
            have c21b0:=eq_true c21
            have c21b1:decide ((((rdOf ByteArray.empty t229 x7_2) ++ (⟨#[32]⟩:ByteArray)).size:Int)≤(a1.size:Int))=true:=decide_eq_true c21
            have c21n2:(((rdOf ByteArray.empty t229 x7_2).size:Int)+1≤(a1.size:Int))=True:=eq_true (by have:=c21;rw [ByteArray.size_append] at this;have e:(⟨#[32]⟩:ByteArray).size=1:=rfl;omega)
            have c21n3:(0≤((rdOf ByteArray.empty t229 x7_2).size:Int)+1∧((rdOf ByteArray.empty t229 x7_2).size:Int)+1≤(a1.size:Int))=True:=eq_true ⟨by omega,by have:=c21;rw [ByteArray.size_append] at this;have e:(⟨#[32]⟩:ByteArray).size=1:=rfl;omega⟩
            have c21n4:(0≤((rdOf ByteArray.empty t229 x7_2).size:Int)+1)=True:=eq_true (by omega)
            have c21e:((((rdOf ByteArray.empty t229 x7_2) ++ (⟨#[32]⟩:ByteArray)).size:Int)).toNat=(rdOf ByteArray.empty t229 x7_2).size+1:=by rw [Int.toNat_natCast,ByteArray.size_append];rfl
            have H':=Aside0.mk H
            clear H
            go_wp2
            go_meet
            case rel=>exact ⟨_,(((a1.extract 0 ((((rdOf ByteArray.empty t229 x7_2) ++ (⟨#[32]⟩:ByteArray)).size:Int):Int).toNat).toList != ((rdOf ByteArray.empty t229 x7_2) ++ (⟨#[32]⟩:ByteArray)).toList)),(by first|rfl|(rw [c21e];simp [bne];done)|(simp;done)|(simp [*];done)),H',⟨by have:=HJ2.out;have:=HK2.out;first|omega|exact Nat.le_refl _⟩,⟨by (with_reducible repeat (first|refine blk_drewN ?_ _|refine blk_drew ?_|refine blk_alloc ?_ _));exact BK227.out⟩,⟨by (with_reducible repeat (first|refine blk_drewN ?_ _|refine blk_drew ?_|refine blk_alloc ?_ _));exact BK228.out⟩,⟨by repeat (first|(with_reducible first|exact HB.out|apply below_alloc|apply pw_below_drewN|apply below_drew1|refine below_set ?_ GE227.out|refine below_set ?_ GE228.out)|exact HB.out)⟩⟩
           rw [if_neg c21] at H
           exact absurd H (by simp)
          rw [if_neg c20] at H
          exact absurd H (by simp)
         case rest =>
          clear HC16
          try clear c1
          try clear c2
          try clear p2
          try clear q2
          try clear hx2
          try clear c3
          try clear c5
          try clear c6
          try clear c8
          try clear c8b0
          try clear c9
          try clear c11
          try clear c11b0
          try clear c13
          try clear c13b0
          try clear c14
          try clear c14b0
          try clear c15
          try clear c15b0
          try clear c15b1
          try clear c15b2
          try clear c19
          try clear c19b0
          try clear c19b1
          try clear c20
          try clear c20b0
          try clear c20b1
          try clear c21
          try clear c21b0
          try clear c21b1
          try clear hcz10_0
          try clear hcz10_1
          try clear hcz7_0
          try clear hcz7_1
          try clear hfz10_0
          try clear hfz10_1
          try clear hfz7_0
          try clear hfz7_1
          try clear hx232_0
          try clear p2
          try clear p232
          try clear q232
          obtain ⟨kq,x44_15,rfl,HA,HJ15,BK227,BK228,HB⟩:=hcut
          cases kq with
          | zero=>exact absurd HA.out (by simp [spec_l4event.j2])
          | succ kj15 =>
           have H:=HA.out
           clear HA
           simp only [spec_l4event.j2] at H
           by_cases c22:x44_15=true
           ·subst c22
            have H1:(spec_l4event.l0 kj15 a1 x6_2 (wrap64 (x7_2+1)) a0_0 l0_1)=some (r1,r2,r3,r4):=by rw [if_pos rfl] at H;exact H
            clear H
            have H:=H1
            clear H1
            have H':=Aside0.mk H
            clear H
            go_wp2
            go_roundg kj15
            case measure=>have:=HJ2.out;have:=HK2.out;have:=HJ15.out;omega
            case rel=>exact ⟨(wrap64 (x7_2+1)),(x229000_2),(x229001_2),(x229002_2),(by first|rfl|(simp;done)|(simp [*];done)),H',⟨by have:=HJ2.out;have:=HK2.out;have:=HJ15.out;omega⟩,⟨by (with_reducible repeat (first|refine blk_drewN ?_ _|refine blk_drew ?_|refine blk_alloc ?_ _));exact BK227.out⟩,⟨by (with_reducible repeat (first|refine blk_drewN ?_ _|refine blk_drew ?_|refine blk_alloc ?_ _));exact BK228.out⟩,⟨by repeat (first|(with_reducible first|exact HB.out|apply below_alloc|apply pw_below_drewN|apply below_drew1|refine below_set ?_ GE227.out|refine below_set ?_ GE228.out)|exact HB.out)⟩⟩
           replace c22:=Bool.eq_false_iff.mpr c22
           subst c22
           have H1:(spec_l4event.l1 kj15 a1 x6_2 x7_2 0 a0_0 l0_1)=some (r1,r2,r3,r4):=by rw [if_neg (show ¬ (false=true) by decide)] at H;exact H
           clear H
           have H:=H1
           clear H1
           have H':=Aside0.mk H
           clear H
           go_wp2
           go_loopg [10] kj15 (fun kq v10 w'=>∃ (x10_4:Int) (x229000_4:Int) (x229001_4:Int) (x229002_4:Int),v10=.int .i64 x10_4∧Aside0 (spec_l4event.l1 kq a1 x6_2 x7_2 x10_4 a0_0 l0_1=some (r1,r2,r3,r4))∧Aside0 (kq≤kj15)∧Aside0 (w'.heap[gb227]?=some (.cells #[.int .i64 a0_0,(.slice A0_1 l0_1.length c0_1)] 31 (0,0)))∧Aside0 (w'.heap[gb228]?=some (.cells #[.int .i64 x229000_4,.int .i64 x229001_4,.int .i64 x229002_4] 52 (0,0)))∧Aside0 (Below w.heap.size w w'))
           case atStart=>exact ⟨(0),(x229000_2),(x229001_2),(x229002_2),(by first|rfl|(simp;done)|(simp [*];done)),H',⟨Nat.le_refl _⟩,⟨by (with_reducible repeat (first|refine blk_drewN ?_ _|refine blk_drew ?_|refine blk_alloc ?_ _));exact BK227.out⟩,⟨by (with_reducible repeat (first|refine blk_drewN ?_ _|refine blk_drew ?_|refine blk_alloc ?_ _));exact BK228.out⟩,⟨by repeat (first|(with_reducible first|exact HB.out|apply below_alloc|apply pw_below_drewN|apply below_drew1|refine below_set ?_ GE227.out|refine below_set ?_ GE228.out)|exact HB.out)⟩⟩
           case round =>
            clear H'
            try clear c1
            try clear c2
            try clear p2
            try clear q2
            try clear hx2
            try clear c3
            try clear c5
            try clear c6
            try clear p6
            try clear c8
            try clear c8b0
            try clear c9
            try clear c11
            try clear c11b0
            try clear c13
            try clear c13b0
            try clear c14
            try clear c14b0
            try clear c15
            try clear c15b0
            try clear c15b1
            try clear c15b2
            try clear c19
            try clear c19b0
            try clear c19b1
            try clear c20
            try clear c20b0
            try clear c20b1
            try clear c21
            try clear c21b0
            try clear c21b1
            try clear c22
            try clear hcz10_0
            try clear hcz10_1
            try clear hcz7_0
            try clear hcz7_1
            try clear hfz10_0
            try clear hfz10_1
            try clear hfz7_0
            try clear hfz7_1
            try clear hx232_0
            try clear p2
            try clear p232
            try clear q2
            try clear q232
            obtain ⟨x10_4,x229000_4,x229001_4,x229002_4,rfl,HA,HK4,BK227,BK228,HB⟩:=hrel
            cases gk with
            | zero=>exact absurd HA.out (by simp [spec_l4event.l1])
            | succ k4 =>
             have H:=HA.out
             clear HA
             simp only [spec_l4event.l1] at H
             by_cases c23:x10_4<x6_2
             ·rw [if_pos c23] at H
              have c23b0:decide (x10_4<x6_2)=true:=decide_eq_true c23
              clear c23
              have H':=Aside0.mk H
              clear H
              go_wp2
              go_loopg [11] k4 (fun kq v11 w'=>∃ (x11_5:Int) (x229000_5:Int) (x229001_5:Int) (x229002_5:Int),v11=.int .i64 x11_5∧Aside0 (spec_l4event.l2 kq a1 x6_2 x7_2 x10_4 x11_5 a0_0 l0_1=some (r1,r2,r3,r4))∧Aside0 (kq≤k4)∧Aside0 (w'.heap[gb227]?=some (.cells #[.int .i64 a0_0,(.slice A0_1 l0_1.length c0_1)] 31 (0,0)))∧Aside0 (w'.heap[gb228]?=some (.cells #[.int .i64 x229000_5,.int .i64 x229001_5,.int .i64 x229002_5] 52 (0,0)))∧Aside0 (Below w.heap.size w w'))
              case atStart=>exact ⟨((-1)),(x229000_4),(x229001_4),(x229002_4),(by first|rfl|(simp;done)|(simp [*];done)),H',⟨Nat.le_refl _⟩,⟨by (with_reducible repeat (first|refine blk_drewN ?_ _|refine blk_drew ?_|refine blk_alloc ?_ _));exact BK227.out⟩,⟨by (with_reducible repeat (first|refine blk_drewN ?_ _|refine blk_drew ?_|refine blk_alloc ?_ _));exact BK228.out⟩,⟨by repeat (first|(with_reducible first|exact HB.out|apply below_alloc|apply pw_below_drewN|apply below_drew1|refine below_set ?_ GE227.out|refine below_set ?_ GE228.out)|exact HB.out)⟩⟩
              case round =>
               clear H'
               try clear c1
               try clear c2
               try clear p2
               try clear q2
               try clear hx2
               try clear c3
               try clear c5
               try clear c6
               try clear p6
               try clear c8
               try clear c8b0
               try clear c9
               try clear c11
               try clear c11b0
               try clear c13
               try clear c13b0
               try clear c14
               try clear c14b0
               try clear c15
               try clear c15b0
               try clear c15b1
               try clear c15b2
               try clear c19
               try clear c19b0
               try clear c19b1
               try clear c20
               try clear c20b0
               try clear c20b1
               try clear c21
               try clear c21b0
               try clear c21b1
               try clear c22
               try clear c23
               try clear c23b0
               try clear p23
               try clear q23
               try clear hx23
               try clear hcz10_0
               try clear hcz10_1
               try clear hcz7_0
               try clear hcz7_1
               try clear hfz10_0
               try clear hfz10_1
               try clear hfz7_0
               try clear hfz7_1
               try clear hx232_0
               try clear p2
               try clear p232
               try clear p6
               try clear q2
               try clear q232
               obtain ⟨x11_5,x229000_5,x229001_5,x229002_5,rfl,HA,HK5,BK227,BK228,HB⟩:=hrel
               cases gk with
               | zero=>exact absurd HA.out (by simp [spec_l4event.l2])
               | succ k5 =>
                have H:=HA.out
                clear HA
                simp only [spec_l4event.l2] at H
                by_cases c24:x11_5≤1
                ·rw [if_pos c24] at H
                 have c24b0:decide (x11_5≤1)=true:=decide_eq_true c24
                 clear c24
                 replace H:=Option.bind_eq_some_iff.mp H
                 obtain ⟨t234,A250,H⟩:=H
                 replace H:(if t234=true then ((spec_l4line.f x7_2 x10_4 x11_5).bind fun t235=>(if t235.toList=a1.toList then (some (x7_2,x10_4,x11_5,true)) else (spec_l4event.l2 k5 a1 x6_2 x7_2 x10_4 (wrap64 (x11_5+1)) a0_0 l0_1))) else (spec_l4event.l2 k5 a1 x6_2 x7_2 x10_4 (wrap64 (x11_5+1)) a0_0 l0_1))=some (r1,r2,r3,r4):=H
                 have A25:=Aside0.mk A250
                 clear A250
                 by_cases c26:t234=true
                 ·subst c26
                  have H1:((spec_l4line.f x7_2 x10_4 x11_5).bind fun t235=>(if t235.toList=a1.toList then (some (x7_2,x10_4,x11_5,true)) else (spec_l4event.l2 k5 a1 x6_2 x7_2 x10_4 (wrap64 (x11_5+1)) a0_0 l0_1)))=some (r1,r2,r3,r4):=by rw [if_pos rfl] at H;exact H
                  clear H
                  have H:=H1
                  clear H1
                  replace H:=Option.bind_eq_some_iff.mp H
                  obtain ⟨t235,A270,H⟩:=H
                  replace H:(if t235.toList=a1.toList then (some (x7_2,x10_4,x11_5,true)) else (spec_l4event.l2 k5 a1 x6_2 x7_2 x10_4 (wrap64 (x11_5+1)) a0_0 l0_1))=some (r1,r2,r3,r4):=H
                  have A27:=Aside0.mk A270
                  clear A270
                  by_cases c28:t235.toList=a1.toList
                  ·rw [if_pos c28] at H
                   have c28b0:(t235.toList==a1.toList)=true:=beq_iff_eq.mpr c28
                   have c28b1:(t235.toList != a1.toList)=false:=bne_eq_false_iff_eq.mpr c28
                   clear c28
                   simp only [Option.some.injEq,Prod.mk.injEq] at H
                   obtain ⟨rfl,rfl,rfl,rfl⟩:=H
                   go_wp2_with (first|((with_reducible refine gate_dst (N:=12) rfl ?_);(try (refine gate_guard (by rfl) ?_;dsimp only));refine box_event ?hg (N:=12) ?hd (cs:=#[.int .i64 0,.int .i64 0,.int .i64 0]) (t:=52) ?hr ?_;(case hd=>rfl);(case hg=>rfl);(case hr=>first|(go_simp;done)|(go_simp;rfl));intro gb233 hg w29 hbox hb;have n0_:=Aside0.mk (blk_below (g:=gb227) (o:=.cells #[.int .i64 a0_0,.slice A0_1 l0_1.length c0_1] 31 (0,0)) (by (with_reducible repeat (first|refine blk_drewN ?_ _|refine blk_drew ?_|refine blk_alloc ?_ _));exact BK227.out) hb);have n1_:=Aside0.mk (blk_below (g:=gb228) (o:=.cells #[.int .i64 x229000_5,.int .i64 x229001_5,.int .i64 x229002_5] 52 (0,0)) (by (with_reducible repeat (first|refine blk_drewN ?_ _|refine blk_drew ?_|refine blk_alloc ?_ _));exact BK228.out) hb);have n2_:=Aside0.mk (below_step (by repeat (first|(with_reducible first|exact HB.out|apply below_alloc|apply pw_below_drewN|apply below_drew1|refine below_set ?_ GE227.out|refine below_set ?_ GE228.out)|exact HB.out)) hb);have n3_:=Aside0.mk (hbox);have n4_:=Aside0.mk ((by rw [hg];exact (below_size (by repeat (first|(with_reducible first|exact HB.out|apply below_alloc|apply pw_below_drewN|apply below_drew1|refine below_set ?_ GE227.out|refine below_set ?_ GE228.out)|exact HB.out))):w.heap.size≤gb233));have n5_:=Aside0.mk ((by rw [hg];exact (below_size (by repeat (first|(with_reducible first|exact HB.out|apply below_alloc|apply pw_below_drewN|apply below_drew1|refine below_set ?_ GE227.out|refine below_set ?_ GE228.out)|exact HB.out))):w.heap.size≤gb233));have n6_:=Aside0.mk ((by rw [hg];exact Nat.ne_of_lt (blk_lt (g:=gb227) (o:=.cells #[.int .i64 a0_0,.slice A0_1 l0_1.length c0_1] 31 (0,0)) (by (with_reducible repeat (first|refine blk_drewN ?_ _|refine blk_drew ?_|refine blk_alloc ?_ _));exact BK227.out)):gb227 ≠ gb233));have n7_:=Aside0.mk ((by rw [hg];exact Nat.ne_of_gt (blk_lt (g:=gb227) (o:=.cells #[.int .i64 a0_0,.slice A0_1 l0_1.length c0_1] 31 (0,0)) (by (with_reducible repeat (first|refine blk_drewN ?_ _|refine blk_drew ?_|refine blk_alloc ?_ _));exact BK227.out)):gb233 ≠ gb227));have n8_:=Aside0.mk ((by rw [hg];exact Nat.ne_of_lt (blk_lt (g:=gb228) (o:=.cells #[.int .i64 x229000_5,.int .i64 x229001_5,.int .i64 x229002_5] 52 (0,0)) (by (with_reducible repeat (first|refine blk_drewN ?_ _|refine blk_drew ?_|refine blk_alloc ?_ _));exact BK228.out)):gb228 ≠ gb233));have n9_:=Aside0.mk ((by rw [hg];exact Nat.ne_of_gt (blk_lt (g:=gb228) (o:=.cells #[.int .i64 x229000_5,.int .i64 x229001_5,.int .i64 x229002_5] 52 (0,0)) (by (with_reducible repeat (first|refine blk_drewN ?_ _|refine blk_drew ?_|refine blk_alloc ?_ _));exact BK228.out)):gb233 ≠ gb228));clear BK227;clear BK228;clear HB;have BK227:=n0_;have BK228:=n1_;have HB:=n2_;have BK233:=n3_;have GW233:=n4_;have GE233:=n5_;have NB227_233:=n6_;have NB233_227:=n7_;have NB228_233:=n8_;have NB233_228:=n9_;clear n0_ n1_ n2_ n3_ n4_ n5_ n6_ n7_ n8_ n9_;clear hb hbox hg;have hnb30:=NB233_227.out;have hnc30:=NB227_233.out;have hnb31:=NB233_228.out;have hnc31:=NB228_233.out;have hcz32_0:w29.cell? ⟨gb233,0,none⟩=some (.int .i64 0):=(blk_cell BK233.out 0).trans rfl;have hcz32_1:w29.cell? ⟨gb233,1,none⟩=some (.int .i64 0):=(blk_cell BK233.out 1).trans rfl;have hcz32_2:w29.cell? ⟨gb233,2,none⟩=some (.int .i64 0):=(blk_cell BK233.out 2).trans rfl;have hfz32_0:=blk_frozen BK233.out 0;have hfz32_1:=blk_frozen BK233.out 1;have hfz32_2:=blk_frozen BK233.out 2;have hnb33:=NB227_228.out;have hnc33:=NB228_227.out;have hcz34_0:w29.cell? ⟨gb227,0,none⟩=some (.int .i64 a0_0):=(blk_cell BK227.out 0).trans rfl;have hcz34_1:w29.cell? ⟨gb227,1,none⟩=some (.slice A0_1 l0_1.length c0_1):=(blk_cell BK227.out 1).trans rfl;have hfz34_0:=blk_frozen BK227.out 0;have hfz34_1:=blk_frozen BK227.out 1)|((with_reducible refine gate_callee (f:=26) rfl ?_);refine goesL_ (some 60) rfl rfl Tryd.func26 (by kernel_rfl) rfl #[.agg #[.int .i64 a0_0,.slice A0_1 l0_1.length c0_1],.agg #[.int .i64 x7_2,.int .i64 x10_4,.int .i64 x11_5]] rfl (by (try simp only [List.map_toArray,List.map_cons,List.map_nil]);first|done|rfl|(simp only [List.length_drop,List.length_take];rfl)) ?_;(with_reducible refine (spec_EventOk.calls k5 a0_0 _ _ l0_1 x7_2 x10_4 x11_5 true _ ?side1 ?side2 A25.out).mono ?_);(case side1=>exact Kd.C_below HR0_1.out (by repeat (first|(with_reducible first|exact HB.out|apply below_alloc|apply pw_below_drewN|apply below_drew1|refine below_set ?_ GE227.out|refine below_set ?_ GE228.out|refine below_set ?_ GE233.out)|exact HB.out)));(case side2=>exact HC0_1.out);rintro e w35 ⟨rfl,hb⟩;refine ⟨_,rfl,?_⟩;have n0_:=Aside0.mk (blk_below (g:=gb227) (o:=.cells #[.int .i64 a0_0,.slice A0_1 l0_1.length c0_1] 31 (0,0)) (by (with_reducible repeat (first|refine blk_drewN ?_ _|refine blk_drew ?_|refine blk_alloc ?_ _));refine blk_far ?_ NB227_233.out _;(with_reducible repeat (first|refine blk_drewN ?_ _|refine blk_drew ?_|refine blk_alloc ?_ _));refine blk_far ?_ NB227_233.out _;(with_reducible repeat (first|refine blk_drewN ?_ _|refine blk_drew ?_|refine blk_alloc ?_ _));refine blk_far ?_ NB227_233.out _;(with_reducible repeat (first|refine blk_drewN ?_ _|refine blk_drew ?_|refine blk_alloc ?_ _));exact BK227.out) hb);have n1_:=Aside0.mk (blk_below (g:=gb228) (o:=.cells #[.int .i64 x229000_5,.int .i64 x229001_5,.int .i64 x229002_5] 52 (0,0)) (by (with_reducible repeat (first|refine blk_drewN ?_ _|refine blk_drew ?_|refine blk_alloc ?_ _));refine blk_far ?_ NB228_233.out _;(with_reducible repeat (first|refine blk_drewN ?_ _|refine blk_drew ?_|refine blk_alloc ?_ _));refine blk_far ?_ NB228_233.out _;(with_reducible repeat (first|refine blk_drewN ?_ _|refine blk_drew ?_|refine blk_alloc ?_ _));refine blk_far ?_ NB228_233.out _;(with_reducible repeat (first|refine blk_drewN ?_ _|refine blk_drew ?_|refine blk_alloc ?_ _));exact BK228.out) hb);have n2_:=Aside0.mk (blk_below (g:=gb233) (o:=.cells #[.int .i64 x7_2,.int .i64 x10_4,.int .i64 x11_5] 52 (0,0)) (by (with_reducible repeat (first|refine blk_drewN ?_ _|refine blk_drew ?_|refine blk_alloc ?_ _));refine blk_put (cs:=#[.int .i64 x7_2,.int .i64 x10_4,.int .i64 0]) ?_ 2 _ rfl;(with_reducible repeat (first|refine blk_drewN ?_ _|refine blk_drew ?_|refine blk_alloc ?_ _));refine blk_put (cs:=#[.int .i64 x7_2,.int .i64 0,.int .i64 0]) ?_ 1 _ rfl;(with_reducible repeat (first|refine blk_drewN ?_ _|refine blk_drew ?_|refine blk_alloc ?_ _));refine blk_put (cs:=#[.int .i64 0,.int .i64 0,.int .i64 0]) ?_ 0 _ rfl;(with_reducible repeat (first|refine blk_drewN ?_ _|refine blk_drew ?_|refine blk_alloc ?_ _));exact BK233.out) hb);have n3_:=Aside0.mk (below_step (by repeat (first|(with_reducible first|exact HB.out|apply below_alloc|apply pw_below_drewN|apply below_drew1|refine below_set ?_ GE227.out|refine below_set ?_ GE228.out|refine below_set ?_ GE233.out)|exact HB.out)) hb);clear BK227;clear BK228;clear BK233;clear HB;have BK227:=n0_;have BK228:=n1_;have BK233:=n2_;have HB:=n3_;clear n0_ n1_ n2_ n3_;(try clear hb);(try clear hb2);(try clear hk);(try clear hi);have hcz36_0:w35.cell? ⟨gb233,0,none⟩=some (.int .i64 x7_2):=(blk_cell BK233.out 0).trans rfl;have hcz36_1:w35.cell? ⟨gb233,1,none⟩=some (.int .i64 x10_4):=(blk_cell BK233.out 1).trans rfl;have hcz36_2:w35.cell? ⟨gb233,2,none⟩=some (.int .i64 x11_5):=(blk_cell BK233.out 2).trans rfl;have hfz36_0:=blk_frozen BK233.out 0;have hfz36_1:=blk_frozen BK233.out 1;have hfz36_2:=blk_frozen BK233.out 2)|(go_at_call 27;(with_reducible refine (spec_l4line.calls x7_2 x10_4 x11_5 t235 _ A27.out).mono ?_);rintro e w37 ⟨rfl,hb⟩;have n0_:=Aside0.mk (blk_below (g:=gb227) (o:=.cells #[.int .i64 a0_0,.slice A0_1 l0_1.length c0_1] 31 (0,0)) (by (with_reducible repeat (first|refine blk_drewN ?_ _|refine blk_drew ?_|refine blk_alloc ?_ _));exact BK227.out) hb);have n1_:=Aside0.mk (blk_below (g:=gb228) (o:=.cells #[.int .i64 x229000_5,.int .i64 x229001_5,.int .i64 x229002_5] 52 (0,0)) (by (with_reducible repeat (first|refine blk_drewN ?_ _|refine blk_drew ?_|refine blk_alloc ?_ _));exact BK228.out) hb);have n2_:=Aside0.mk (blk_below (g:=gb233) (o:=.cells #[.int .i64 x7_2,.int .i64 x10_4,.int .i64 x11_5] 52 (0,0)) (by (with_reducible repeat (first|refine blk_drewN ?_ _|refine blk_drew ?_|refine blk_alloc ?_ _));exact BK233.out) hb);have n3_:=Aside0.mk (below_step (by repeat (first|(with_reducible first|exact HB.out|apply below_alloc|apply pw_below_drewN|apply below_drew1|refine below_set ?_ GE227.out|refine below_set ?_ GE228.out|refine below_set ?_ GE233.out)|exact HB.out)) hb);clear BK227;clear BK228;clear BK233;clear HB;have BK227:=n0_;have BK228:=n1_;have BK233:=n2_;have HB:=n3_;clear n0_ n1_ n2_ n3_;(try clear hb);(try clear hb2);(try clear hk);(try clear hi);have hcz38_0:w37.cell? ⟨gb233,0,none⟩=some (.int .i64 x7_2):=(blk_cell BK233.out 0).trans rfl;have hcz38_1:w37.cell? ⟨gb233,1,none⟩=some (.int .i64 x10_4):=(blk_cell BK233.out 1).trans rfl;have hcz38_2:w37.cell? ⟨gb233,2,none⟩=some (.int .i64 x11_5):=(blk_cell BK233.out 2).trans rfl;have hfz38_0:=blk_frozen BK233.out 0;have hfz38_1:=blk_frozen BK233.out 1;have hfz38_2:=blk_frozen BK233.out 2;have hcz39_0:w37.cell? ⟨gb228,0,none⟩=some (.int .i64 x229000_5):=(blk_cell BK228.out 0).trans rfl;have hcz39_1:w37.cell? ⟨gb228,1,none⟩=some (.int .i64 x229001_5):=(blk_cell BK228.out 1).trans rfl;have hcz39_2:w37.cell? ⟨gb228,2,none⟩=some (.int .i64 x229002_5):=(blk_cell BK228.out 2).trans rfl;have hfz39_0:=blk_frozen BK228.out 0;have hfz39_1:=blk_frozen BK228.out 1;have hfz39_2:=blk_frozen BK228.out 2))
                   refine bodyPost_ret (results_ct rfl _ _ gb228 52 #[.int .i64 x7_2,.int .i64 x10_4,.int .i64 x11_5] (0,0) _ rfl (by (with_reducible repeat (first|refine blk_drewN ?_ _|refine blk_drew ?_|refine blk_alloc ?_ _));refine blk_put (cs:=#[.int .i64 x7_2,.int .i64 x10_4,.int .i64 x229002_5]) ?_ 2 _ rfl;(with_reducible repeat (first|refine blk_drewN ?_ _|refine blk_drew ?_|refine blk_alloc ?_ _));refine blk_put (cs:=#[.int .i64 x7_2,.int .i64 x229001_5,.int .i64 x229002_5]) ?_ 1 _ rfl;(with_reducible repeat (first|refine blk_drewN ?_ _|refine blk_drew ?_|refine blk_alloc ?_ _));refine blk_put (cs:=#[.int .i64 x229000_5,.int .i64 x229001_5,.int .i64 x229002_5]) ?_ 0 _ rfl;(with_reducible repeat (first|refine blk_drewN ?_ _|refine blk_drew ?_|refine blk_alloc ?_ _));exact BK228.out) Tryd.underlying52 rfl (by kernel_rfl)) rfl ?_
                   exact ⟨by first|rfl|(simp [errW_none,errW_some] <;> rfl)|(simp [*,errW_none,errW_some] <;> rfl),by repeat (first|(with_reducible first|exact HB.out|apply below_alloc|apply pw_below_drewN|apply below_drew1|refine below_set ?_ GE227.out|refine below_set ?_ GE228.out|refine below_set ?_ GE233.out)|exact HB.out)⟩
                  rw [if_neg c28] at H
                  have c28b0:(t235.toList==a1.toList)=false:=beq_eq_false_iff_ne.mpr c28
                  have c28b1:(t235.toList != a1.toList)=true:=bne_iff_ne.mpr c28
                  have H':=Aside0.mk H
                  clear H
                  go_wp2_with (first|((with_reducible refine gate_dst (N:=12) rfl ?_);(try (refine gate_guard (by rfl) ?_;dsimp only));refine box_event ?hg (N:=12) ?hd (cs:=#[.int .i64 0,.int .i64 0,.int .i64 0]) (t:=52) ?hr ?_;(case hd=>rfl);(case hg=>rfl);(case hr=>first|(go_simp;done)|(go_simp;rfl));intro gb233 hg w40 hbox hb;have n0_:=Aside0.mk (blk_below (g:=gb227) (o:=.cells #[.int .i64 a0_0,.slice A0_1 l0_1.length c0_1] 31 (0,0)) (by (with_reducible repeat (first|refine blk_drewN ?_ _|refine blk_drew ?_|refine blk_alloc ?_ _));exact BK227.out) hb);have n1_:=Aside0.mk (blk_below (g:=gb228) (o:=.cells #[.int .i64 x229000_5,.int .i64 x229001_5,.int .i64 x229002_5] 52 (0,0)) (by (with_reducible repeat (first|refine blk_drewN ?_ _|refine blk_drew ?_|refine blk_alloc ?_ _));exact BK228.out) hb);have n2_:=Aside0.mk (below_step (by repeat (first|(with_reducible first|exact HB.out|apply below_alloc|apply pw_below_drewN|apply below_drew1|refine below_set ?_ GE227.out|refine below_set ?_ GE228.out)|exact HB.out)) hb);have n3_:=Aside0.mk (hbox);have n4_:=Aside0.mk ((by rw [hg];exact (below_size (by repeat (first|(with_reducible first|exact HB.out|apply below_alloc|apply pw_below_drewN|apply below_drew1|refine below_set ?_ GE227.out|refine below_set ?_ GE228.out)|exact HB.out))):w.heap.size≤gb233));have n5_:=Aside0.mk ((by rw [hg];exact (below_size (by repeat (first|(with_reducible first|exact HB.out|apply below_alloc|apply pw_below_drewN|apply below_drew1|refine below_set ?_ GE227.out|refine below_set ?_ GE228.out)|exact HB.out))):w.heap.size≤gb233));have n6_:=Aside0.mk ((by rw [hg];exact Nat.ne_of_lt (blk_lt (g:=gb227) (o:=.cells #[.int .i64 a0_0,.slice A0_1 l0_1.length c0_1] 31 (0,0)) (by (with_reducible repeat (first|refine blk_drewN ?_ _|refine blk_drew ?_|refine blk_alloc ?_ _));exact BK227.out)):gb227 ≠ gb233));have n7_:=Aside0.mk ((by rw [hg];exact Nat.ne_of_gt (blk_lt (g:=gb227) (o:=.cells #[.int .i64 a0_0,.slice A0_1 l0_1.length c0_1] 31 (0,0)) (by (with_reducible repeat (first|refine blk_drewN ?_ _|refine blk_drew ?_|refine blk_alloc ?_ _));exact BK227.out)):gb233 ≠ gb227));have n8_:=Aside0.mk ((by rw [hg];exact Nat.ne_of_lt (blk_lt (g:=gb228) (o:=.cells #[.int .i64 x229000_5,.int .i64 x229001_5,.int .i64 x229002_5] 52 (0,0)) (by (with_reducible repeat (first|refine blk_drewN ?_ _|refine blk_drew ?_|refine blk_alloc ?_ _));exact BK228.out)):gb228 ≠ gb233));have n9_:=Aside0.mk ((by rw [hg];exact Nat.ne_of_gt (blk_lt (g:=gb228) (o:=.cells #[.int .i64 x229000_5,.int .i64 x229001_5,.int .i64 x229002_5] 52 (0,0)) (by (with_reducible repeat (first|refine blk_drewN ?_ _|refine blk_drew ?_|refine blk_alloc ?_ _));exact BK228.out)):gb233 ≠ gb228));clear BK227;clear BK228;clear HB;have BK227:=n0_;have BK228:=n1_;have HB:=n2_;have BK233:=n3_;have GW233:=n4_;have GE233:=n5_;have NB227_233:=n6_;have NB233_227:=n7_;have NB228_233:=n8_;have NB233_228:=n9_;clear n0_ n1_ n2_ n3_ n4_ n5_ n6_ n7_ n8_ n9_;clear hb hbox hg;have hnb41:=NB233_227.out;have hnc41:=NB227_233.out;have hnb42:=NB233_228.out;have hnc42:=NB228_233.out;have hcz43_0:w40.cell? ⟨gb233,0,none⟩=some (.int .i64 0):=(blk_cell BK233.out 0).trans rfl;have hcz43_1:w40.cell? ⟨gb233,1,none⟩=some (.int .i64 0):=(blk_cell BK233.out 1).trans rfl;have hcz43_2:w40.cell? ⟨gb233,2,none⟩=some (.int .i64 0):=(blk_cell BK233.out 2).trans rfl;have hfz43_0:=blk_frozen BK233.out 0;have hfz43_1:=blk_frozen BK233.out 1;have hfz43_2:=blk_frozen BK233.out 2;have hnb44:=NB227_228.out;have hnc44:=NB228_227.out;have hcz45_0:w40.cell? ⟨gb227,0,none⟩=some (.int .i64 a0_0):=(blk_cell BK227.out 0).trans rfl;have hcz45_1:w40.cell? ⟨gb227,1,none⟩=some (.slice A0_1 l0_1.length c0_1):=(blk_cell BK227.out 1).trans rfl;have hfz45_0:=blk_frozen BK227.out 0;have hfz45_1:=blk_frozen BK227.out 1)|((with_reducible refine gate_callee (f:=26) rfl ?_);refine goesL_ (some 60) rfl rfl Tryd.func26 (by kernel_rfl) rfl #[.agg #[.int .i64 a0_0,.slice A0_1 l0_1.length c0_1],.agg #[.int .i64 x7_2,.int .i64 x10_4,.int .i64 x11_5]] rfl (by (try simp only [List.map_toArray,List.map_cons,List.map_nil]);first|done|rfl|(simp only [List.length_drop,List.length_take];rfl)) ?_;(with_reducible refine (spec_EventOk.calls k5 a0_0 _ _ l0_1 x7_2 x10_4 x11_5 true _ ?side1 ?side2 A25.out).mono ?_);(case side1=>exact Kd.C_below HR0_1.out (by repeat (first|(with_reducible first|exact HB.out|apply below_alloc|apply pw_below_drewN|apply below_drew1|refine below_set ?_ GE227.out|refine below_set ?_ GE228.out|refine below_set ?_ GE233.out)|exact HB.out)));(case side2=>exact HC0_1.out);rintro e w46 ⟨rfl,hb⟩;refine ⟨_,rfl,?_⟩;have n0_:=Aside0.mk (blk_below (g:=gb227) (o:=.cells #[.int .i64 a0_0,.slice A0_1 l0_1.length c0_1] 31 (0,0)) (by (with_reducible repeat (first|refine blk_drewN ?_ _|refine blk_drew ?_|refine blk_alloc ?_ _));refine blk_far ?_ NB227_233.out _;(with_reducible repeat (first|refine blk_drewN ?_ _|refine blk_drew ?_|refine blk_alloc ?_ _));refine blk_far ?_ NB227_233.out _;(with_reducible repeat (first|refine blk_drewN ?_ _|refine blk_drew ?_|refine blk_alloc ?_ _));refine blk_far ?_ NB227_233.out _;(with_reducible repeat (first|refine blk_drewN ?_ _|refine blk_drew ?_|refine blk_alloc ?_ _));exact BK227.out) hb);have n1_:=Aside0.mk (blk_below (g:=gb228) (o:=.cells #[.int .i64 x229000_5,.int .i64 x229001_5,.int .i64 x229002_5] 52 (0,0)) (by (with_reducible repeat (first|refine blk_drewN ?_ _|refine blk_drew ?_|refine blk_alloc ?_ _));refine blk_far ?_ NB228_233.out _;(with_reducible repeat (first|refine blk_drewN ?_ _|refine blk_drew ?_|refine blk_alloc ?_ _));refine blk_far ?_ NB228_233.out _;(with_reducible repeat (first|refine blk_drewN ?_ _|refine blk_drew ?_|refine blk_alloc ?_ _));refine blk_far ?_ NB228_233.out _;(with_reducible repeat (first|refine blk_drewN ?_ _|refine blk_drew ?_|refine blk_alloc ?_ _));exact BK228.out) hb);have n2_:=Aside0.mk (blk_below (g:=gb233) (o:=.cells #[.int .i64 x7_2,.int .i64 x10_4,.int .i64 x11_5] 52 (0,0)) (by (with_reducible repeat (first|refine blk_drewN ?_ _|refine blk_drew ?_|refine blk_alloc ?_ _));refine blk_put (cs:=#[.int .i64 x7_2,.int .i64 x10_4,.int .i64 0]) ?_ 2 _ rfl;(with_reducible repeat (first|refine blk_drewN ?_ _|refine blk_drew ?_|refine blk_alloc ?_ _));refine blk_put (cs:=#[.int .i64 x7_2,.int .i64 0,.int .i64 0]) ?_ 1 _ rfl;(with_reducible repeat (first|refine blk_drewN ?_ _|refine blk_drew ?_|refine blk_alloc ?_ _));refine blk_put (cs:=#[.int .i64 0,.int .i64 0,.int .i64 0]) ?_ 0 _ rfl;(with_reducible repeat (first|refine blk_drewN ?_ _|refine blk_drew ?_|refine blk_alloc ?_ _));exact BK233.out) hb);have n3_:=Aside0.mk (below_step (by repeat (first|(with_reducible first|exact HB.out|apply below_alloc|apply pw_below_drewN|apply below_drew1|refine below_set ?_ GE227.out|refine below_set ?_ GE228.out|refine below_set ?_ GE233.out)|exact HB.out)) hb);clear BK227;clear BK228;clear BK233;clear HB;have BK227:=n0_;have BK228:=n1_;have BK233:=n2_;have HB:=n3_;clear n0_ n1_ n2_ n3_;(try clear hb);(try clear hb2);(try clear hk);(try clear hi);have hcz47_0:w46.cell? ⟨gb233,0,none⟩=some (.int .i64 x7_2):=(blk_cell BK233.out 0).trans rfl;have hcz47_1:w46.cell? ⟨gb233,1,none⟩=some (.int .i64 x10_4):=(blk_cell BK233.out 1).trans rfl;have hcz47_2:w46.cell? ⟨gb233,2,none⟩=some (.int .i64 x11_5):=(blk_cell BK233.out 2).trans rfl;have hfz47_0:=blk_frozen BK233.out 0;have hfz47_1:=blk_frozen BK233.out 1;have hfz47_2:=blk_frozen BK233.out 2)|(go_at_call 27;(with_reducible refine (spec_l4line.calls x7_2 x10_4 x11_5 t235 _ A27.out).mono ?_);rintro e w48 ⟨rfl,hb⟩;have n0_:=Aside0.mk (blk_below (g:=gb227) (o:=.cells #[.int .i64 a0_0,.slice A0_1 l0_1.length c0_1] 31 (0,0)) (by (with_reducible repeat (first|refine blk_drewN ?_ _|refine blk_drew ?_|refine blk_alloc ?_ _));exact BK227.out) hb);have n1_:=Aside0.mk (blk_below (g:=gb228) (o:=.cells #[.int .i64 x229000_5,.int .i64 x229001_5,.int .i64 x229002_5] 52 (0,0)) (by (with_reducible repeat (first|refine blk_drewN ?_ _|refine blk_drew ?_|refine blk_alloc ?_ _));exact BK228.out) hb);have n2_:=Aside0.mk (blk_below (g:=gb233) (o:=.cells #[.int .i64 x7_2,.int .i64 x10_4,.int .i64 x11_5] 52 (0,0)) (by (with_reducible repeat (first|refine blk_drewN ?_ _|refine blk_drew ?_|refine blk_alloc ?_ _));exact BK233.out) hb);have n3_:=Aside0.mk (below_step (by repeat (first|(with_reducible first|exact HB.out|apply below_alloc|apply pw_below_drewN|apply below_drew1|refine below_set ?_ GE227.out|refine below_set ?_ GE228.out|refine below_set ?_ GE233.out)|exact HB.out)) hb);clear BK227;clear BK228;clear BK233;clear HB;have BK227:=n0_;have BK228:=n1_;have BK233:=n2_;have HB:=n3_;clear n0_ n1_ n2_ n3_;(try clear hb);(try clear hb2);(try clear hk);(try clear hi)))
                  go_roundg k5
                  case measure=>have:=HJ2.out;have:=HK2.out;have:=HJ15.out;have:=HK4.out;have:=HK5.out;omega
                  case rel=>exact ⟨(wrap64 (x11_5+1)),(x229000_5),(x229001_5),(x229002_5),(by first|rfl|(simp;done)|(simp [*];done)),H',⟨by have:=HJ2.out;have:=HK2.out;have:=HJ15.out;have:=HK4.out;have:=HK5.out;omega⟩,⟨by (with_reducible repeat (first|refine blk_drewN ?_ _|refine blk_drew ?_|refine blk_alloc ?_ _));exact BK227.out⟩,⟨by (with_reducible repeat (first|refine blk_drewN ?_ _|refine blk_drew ?_|refine blk_alloc ?_ _));exact BK228.out⟩,⟨by repeat (first|(with_reducible first|exact HB.out|apply below_alloc|apply pw_below_drewN|apply below_drew1|refine below_set ?_ GE227.out|refine below_set ?_ GE228.out|refine below_set ?_ GE233.out)|exact HB.out)⟩⟩
                 replace c26:=Bool.eq_false_iff.mpr c26
                 subst c26
                 have H1:(spec_l4event.l2 k5 a1 x6_2 x7_2 x10_4 (wrap64 (x11_5+1)) a0_0 l0_1)=some (r1,r2,r3,r4):=by rw [if_neg (show ¬ (false=true) by decide)] at H;exact H
                 clear H
                 have H:=H1
                 clear H1
                 have H':=Aside0.mk H
                 clear H
                 go_wp2_with (first|((with_reducible refine gate_dst (N:=12) rfl ?_);(try (refine gate_guard (by rfl) ?_;dsimp only));refine box_event ?hg (N:=12) ?hd (cs:=#[.int .i64 0,.int .i64 0,.int .i64 0]) (t:=52) ?hr ?_;(case hd=>rfl);(case hg=>rfl);(case hr=>first|(go_simp;done)|(go_simp;rfl));intro gb233 hg w49 hbox hb;have n0_:=Aside0.mk (blk_below (g:=gb227) (o:=.cells #[.int .i64 a0_0,.slice A0_1 l0_1.length c0_1] 31 (0,0)) (by (with_reducible repeat (first|refine blk_drewN ?_ _|refine blk_drew ?_|refine blk_alloc ?_ _));exact BK227.out) hb);have n1_:=Aside0.mk (blk_below (g:=gb228) (o:=.cells #[.int .i64 x229000_5,.int .i64 x229001_5,.int .i64 x229002_5] 52 (0,0)) (by (with_reducible repeat (first|refine blk_drewN ?_ _|refine blk_drew ?_|refine blk_alloc ?_ _));exact BK228.out) hb);have n2_:=Aside0.mk (below_step (by repeat (first|(with_reducible first|exact HB.out|apply below_alloc|apply pw_below_drewN|apply below_drew1|refine below_set ?_ GE227.out|refine below_set ?_ GE228.out)|exact HB.out)) hb);have n3_:=Aside0.mk (hbox);have n4_:=Aside0.mk ((by rw [hg];exact (below_size (by repeat (first|(with_reducible first|exact HB.out|apply below_alloc|apply pw_below_drewN|apply below_drew1|refine below_set ?_ GE227.out|refine below_set ?_ GE228.out)|exact HB.out))):w.heap.size≤gb233));have n5_:=Aside0.mk ((by rw [hg];exact (below_size (by repeat (first|(with_reducible first|exact HB.out|apply below_alloc|apply pw_below_drewN|apply below_drew1|refine below_set ?_ GE227.out|refine below_set ?_ GE228.out)|exact HB.out))):w.heap.size≤gb233));have n6_:=Aside0.mk ((by rw [hg];exact Nat.ne_of_lt (blk_lt (g:=gb227) (o:=.cells #[.int .i64 a0_0,.slice A0_1 l0_1.length c0_1] 31 (0,0)) (by (with_reducible repeat (first|refine blk_drewN ?_ _|refine blk_drew ?_|refine blk_alloc ?_ _));exact BK227.out)):gb227 ≠ gb233));have n7_:=Aside0.mk ((by rw [hg];exact Nat.ne_of_gt (blk_lt (g:=gb227) (o:=.cells #[.int .i64 a0_0,.slice A0_1 l0_1.length c0_1] 31 (0,0)) (by (with_reducible repeat (first|refine blk_drewN ?_ _|refine blk_drew ?_|refine blk_alloc ?_ _));exact BK227.out)):gb233 ≠ gb227));have n8_:=Aside0.mk ((by rw [hg];exact Nat.ne_of_lt (blk_lt (g:=gb228) (o:=.cells #[.int .i64 x229000_5,.int .i64 x229001_5,.int .i64 x229002_5] 52 (0,0)) (by (with_reducible repeat (first|refine blk_drewN ?_ _|refine blk_drew ?_|refine blk_alloc ?_ _));exact BK228.out)):gb228 ≠ gb233));have n9_:=Aside0.mk ((by rw [hg];exact Nat.ne_of_gt (blk_lt (g:=gb228) (o:=.cells #[.int .i64 x229000_5,.int .i64 x229001_5,.int .i64 x229002_5] 52 (0,0)) (by (with_reducible repeat (first|refine blk_drewN ?_ _|refine blk_drew ?_|refine blk_alloc ?_ _));exact BK228.out)):gb233 ≠ gb228));clear BK227;clear BK228;clear HB;have BK227:=n0_;have BK228:=n1_;have HB:=n2_;have BK233:=n3_;have GW233:=n4_;have GE233:=n5_;have NB227_233:=n6_;have NB233_227:=n7_;have NB228_233:=n8_;have NB233_228:=n9_;clear n0_ n1_ n2_ n3_ n4_ n5_ n6_ n7_ n8_ n9_;clear hb hbox hg;have hnb50:=NB233_227.out;have hnc50:=NB227_233.out;have hnb51:=NB233_228.out;have hnc51:=NB228_233.out;have hcz52_0:w49.cell? ⟨gb233,0,none⟩=some (.int .i64 0):=(blk_cell BK233.out 0).trans rfl;have hcz52_1:w49.cell? ⟨gb233,1,none⟩=some (.int .i64 0):=(blk_cell BK233.out 1).trans rfl;have hcz52_2:w49.cell? ⟨gb233,2,none⟩=some (.int .i64 0):=(blk_cell BK233.out 2).trans rfl;have hfz52_0:=blk_frozen BK233.out 0;have hfz52_1:=blk_frozen BK233.out 1;have hfz52_2:=blk_frozen BK233.out 2;have hnb53:=NB227_228.out;have hnc53:=NB228_227.out;have hcz54_0:w49.cell? ⟨gb227,0,none⟩=some (.int .i64 a0_0):=(blk_cell BK227.out 0).trans rfl;have hcz54_1:w49.cell? ⟨gb227,1,none⟩=some (.slice A0_1 l0_1.length c0_1):=(blk_cell BK227.out 1).trans rfl;have hfz54_0:=blk_frozen BK227.out 0;have hfz54_1:=blk_frozen BK227.out 1)|((with_reducible refine gate_callee (f:=26) rfl ?_);refine goesL_ (some 60) rfl rfl Tryd.func26 (by kernel_rfl) rfl #[.agg #[.int .i64 a0_0,.slice A0_1 l0_1.length c0_1],.agg #[.int .i64 x7_2,.int .i64 x10_4,.int .i64 x11_5]] rfl (by (try simp only [List.map_toArray,List.map_cons,List.map_nil]);first|done|rfl|(simp only [List.length_drop,List.length_take];rfl)) ?_;(with_reducible refine (spec_EventOk.calls k5 a0_0 _ _ l0_1 x7_2 x10_4 x11_5 false _ ?side1 ?side2 A25.out).mono ?_);(case side1=>exact Kd.C_below HR0_1.out (by repeat (first|(with_reducible first|exact HB.out|apply below_alloc|apply pw_below_drewN|apply below_drew1|refine below_set ?_ GE227.out|refine below_set ?_ GE228.out|refine below_set ?_ GE233.out)|exact HB.out)));(case side2=>exact HC0_1.out);rintro e w55 ⟨rfl,hb⟩;refine ⟨_,rfl,?_⟩;have n0_:=Aside0.mk (blk_below (g:=gb227) (o:=.cells #[.int .i64 a0_0,.slice A0_1 l0_1.length c0_1] 31 (0,0)) (by (with_reducible repeat (first|refine blk_drewN ?_ _|refine blk_drew ?_|refine blk_alloc ?_ _));refine blk_far ?_ NB227_233.out _;(with_reducible repeat (first|refine blk_drewN ?_ _|refine blk_drew ?_|refine blk_alloc ?_ _));refine blk_far ?_ NB227_233.out _;(with_reducible repeat (first|refine blk_drewN ?_ _|refine blk_drew ?_|refine blk_alloc ?_ _));refine blk_far ?_ NB227_233.out _;(with_reducible repeat (first|refine blk_drewN ?_ _|refine blk_drew ?_|refine blk_alloc ?_ _));exact BK227.out) hb);have n1_:=Aside0.mk (blk_below (g:=gb228) (o:=.cells #[.int .i64 x229000_5,.int .i64 x229001_5,.int .i64 x229002_5] 52 (0,0)) (by (with_reducible repeat (first|refine blk_drewN ?_ _|refine blk_drew ?_|refine blk_alloc ?_ _));refine blk_far ?_ NB228_233.out _;(with_reducible repeat (first|refine blk_drewN ?_ _|refine blk_drew ?_|refine blk_alloc ?_ _));refine blk_far ?_ NB228_233.out _;(with_reducible repeat (first|refine blk_drewN ?_ _|refine blk_drew ?_|refine blk_alloc ?_ _));refine blk_far ?_ NB228_233.out _;(with_reducible repeat (first|refine blk_drewN ?_ _|refine blk_drew ?_|refine blk_alloc ?_ _));exact BK228.out) hb);have n2_:=Aside0.mk (blk_below (g:=gb233) (o:=.cells #[.int .i64 x7_2,.int .i64 x10_4,.int .i64 x11_5] 52 (0,0)) (by (with_reducible repeat (first|refine blk_drewN ?_ _|refine blk_drew ?_|refine blk_alloc ?_ _));refine blk_put (cs:=#[.int .i64 x7_2,.int .i64 x10_4,.int .i64 0]) ?_ 2 _ rfl;(with_reducible repeat (first|refine blk_drewN ?_ _|refine blk_drew ?_|refine blk_alloc ?_ _));refine blk_put (cs:=#[.int .i64 x7_2,.int .i64 0,.int .i64 0]) ?_ 1 _ rfl;(with_reducible repeat (first|refine blk_drewN ?_ _|refine blk_drew ?_|refine blk_alloc ?_ _));refine blk_put (cs:=#[.int .i64 0,.int .i64 0,.int .i64 0]) ?_ 0 _ rfl;(with_reducible repeat (first|refine blk_drewN ?_ _|refine blk_drew ?_|refine blk_alloc ?_ _));exact BK233.out) hb);have n3_:=Aside0.mk (below_step (by repeat (first|(with_reducible first|exact HB.out|apply below_alloc|apply pw_below_drewN|apply below_drew1|refine below_set ?_ GE227.out|refine below_set ?_ GE228.out|refine below_set ?_ GE233.out)|exact HB.out)) hb);clear BK227;clear BK228;clear BK233;clear HB;have BK227:=n0_;have BK228:=n1_;have BK233:=n2_;have HB:=n3_;clear n0_ n1_ n2_ n3_;(try clear hb);(try clear hb2);(try clear hk);(try clear hi)))
                 go_roundg k5
                 case measure=>have:=HJ2.out;have:=HK2.out;have:=HJ15.out;have:=HK4.out;have:=HK5.out;omega
                 case rel=>exact ⟨(wrap64 (x11_5+1)),(x229000_5),(x229001_5),(x229002_5),(by first|rfl|(simp;done)|(simp [*];done)),H',⟨by have:=HJ2.out;have:=HK2.out;have:=HJ15.out;have:=HK4.out;have:=HK5.out;omega⟩,⟨by (with_reducible repeat (first|refine blk_drewN ?_ _|refine blk_drew ?_|refine blk_alloc ?_ _));exact BK227.out⟩,⟨by (with_reducible repeat (first|refine blk_drewN ?_ _|refine blk_drew ?_|refine blk_alloc ?_ _));exact BK228.out⟩,⟨by repeat (first|(with_reducible first|exact HB.out|apply below_alloc|apply pw_below_drewN|apply below_drew1|refine below_set ?_ GE227.out|refine below_set ?_ GE228.out|refine below_set ?_ GE233.out)|exact HB.out)⟩⟩
                rw [if_neg c24] at H
                have c24b0:decide (x11_5≤1)=false:=decide_eq_false c24
                clear c24
                have H':=Aside0.mk H
                clear H
                go_wp2
                go_roundg k5
                case measure=>have:=HJ2.out;have:=HK2.out;have:=HJ15.out;have:=HK4.out;have:=HK5.out;omega
                case rel=>exact ⟨(wrap64 (x10_4+1)),(x229000_5),(x229001_5),(x229002_5),(by first|rfl|(simp;done)|(simp [*];done)),H',⟨by have:=HJ2.out;have:=HK2.out;have:=HJ15.out;have:=HK4.out;have:=HK5.out;omega⟩,⟨by (with_reducible repeat (first|refine blk_drewN ?_ _|refine blk_drew ?_|refine blk_alloc ?_ _));exact BK227.out⟩,⟨by (with_reducible repeat (first|refine blk_drewN ?_ _|refine blk_drew ?_|refine blk_alloc ?_ _));exact BK228.out⟩,⟨by repeat (first|(with_reducible first|exact HB.out|apply below_alloc|apply pw_below_drewN|apply below_drew1|refine below_set ?_ GE227.out|refine below_set ?_ GE228.out)|exact HB.out)⟩⟩
             rw [if_neg c23] at H
             have c23b0:decide (x10_4<x6_2)=false:=decide_eq_false c23
             clear c23
             have H':=Aside0.mk H
             clear H
             go_wp2
             go_roundg k4
             case measure=>have:=HJ2.out;have:=HK2.out;have:=HJ15.out;have:=HK4.out;omega
             case rel=>exact ⟨(wrap64 (x7_2+1)),(x229000_4),(x229001_4),(x229002_4),(by first|rfl|(simp;done)|(simp [*];done)),H',⟨by have:=HJ2.out;have:=HK2.out;have:=HJ15.out;have:=HK4.out;omega⟩,⟨by (with_reducible repeat (first|refine blk_drewN ?_ _|refine blk_drew ?_|refine blk_alloc ?_ _));exact BK227.out⟩,⟨by (with_reducible repeat (first|refine blk_drewN ?_ _|refine blk_drew ?_|refine blk_alloc ?_ _));exact BK228.out⟩,⟨by repeat (first|(with_reducible first|exact HB.out|apply below_alloc|apply pw_below_drewN|apply below_drew1|refine below_set ?_ GE227.out|refine below_set ?_ GE228.out)|exact HB.out)⟩⟩
        rw [if_neg c15] at H
        exact absurd H (by simp)
       rw [if_neg c14] at H
       exact absurd H (by simp)
      rw [if_neg c13] at H
      exact absurd H (by simp)
     rw [if_neg c11] at H
     have c11b0:decide (x7_2≤5)=false:=decide_eq_false c11
     clear c11
     simp only [Option.some.injEq,Prod.mk.injEq] at H
     obtain ⟨rfl,rfl,rfl,rfl⟩:=H
     have hnb56:=NB228_227.out
     have hnc56:=NB227_228.out
     have hcz57_0:wr.cell? ⟨gb228,0,none⟩=some (.int .i64 x229000_2):=(blk_cell BK228.out 0).trans rfl
     have hcz57_1:wr.cell? ⟨gb228,1,none⟩=some (.int .i64 x229001_2):=(blk_cell BK228.out 1).trans rfl
     have hcz57_2:wr.cell? ⟨gb228,2,none⟩=some (.int .i64 x229002_2):=(blk_cell BK228.out 2).trans rfl
     have hfz57_0:=blk_frozen BK228.out 0
     have hfz57_1:=blk_frozen BK228.out 1
     have hfz57_2:=blk_frozen BK228.out 2
     go_wp2
     refine bodyPost_ret (results_ct rfl _ _ gb228 52 #[.int .i64 0,.int .i64 0,.int .i64 0] (0,0) _ rfl (by (with_reducible repeat (first|refine blk_drewN ?_ _|refine blk_drew ?_|refine blk_alloc ?_ _));refine blk_put (cs:=#[.int .i64 0,.int .i64 0,.int .i64 x229002_2]) ?_ 2 _ rfl;(with_reducible repeat (first|refine blk_drewN ?_ _|refine blk_drew ?_|refine blk_alloc ?_ _));refine blk_put (cs:=#[.int .i64 0,.int .i64 x229001_2,.int .i64 x229002_2]) ?_ 1 _ rfl;(with_reducible repeat (first|refine blk_drewN ?_ _|refine blk_drew ?_|refine blk_alloc ?_ _));refine blk_put (cs:=#[.int .i64 x229000_2,.int .i64 x229001_2,.int .i64 x229002_2]) ?_ 0 _ rfl;(with_reducible repeat (first|refine blk_drewN ?_ _|refine blk_drew ?_|refine blk_alloc ?_ _));exact BK228.out) Tryd.underlying52 rfl (by kernel_rfl)) rfl ?_
     exact ⟨by first|rfl|(simp [errW_none,errW_some] <;> rfl)|(simp [*,errW_none,errW_some] <;> rfl),by repeat (first|(with_reducible first|exact HB.out|apply below_alloc|apply pw_below_drewN|apply below_drew1|refine below_set ?_ GE227.out|refine below_set ?_ GE228.out)|exact HB.out)⟩
end Go.Proofs.YtpdnabhpkdchjaaDoor.P
namespace Go.Proofs.YtpdnabhpkdchjaaDoor.P
open Go Go.RowKit Go.Proofs.YtpdnabhpkdchjaaDoorW.PrintWords Go.Proofs.YtpdnabhpkdchjaaDoorW.PrintLast Go.Proofs.YtpdnabhpkdchjaaDoorW.PrintMore
set_option linter.unusedVariables false
set_option linter.unusedSimpArgs false
theorem bs_toList (s:List UInt8):(bs s).toList=s:=by
 have h:∀ (d:Nat) (i:Nat) (r:List UInt8),i+d=s.length→ByteArray.toList.loop (bs s) i r=r.reverse ++ s.drop i:=by
  intro d
  induction d with
  | zero =>
   intro i r hi
   rw [ByteArray.toList.loop,if_neg (by rw [bs_size];omega),List.drop_of_length_le (by omega),List.append_nil]
  | succ d ih =>
   intro i r hi
   have hl:i<s.length:=by omega
   rw [ByteArray.toList.loop,if_pos (by rw [bs_size];omega),ih (i+1) _ (by omega),List.reverse_cons,List.append_assoc]
   congr 1
   rw [List.drop_eq_getElem_cons hl]
   simp [ByteArray.get!,bs,hl]
 have:=h s.length 0 [] (by omega)
 rw [ByteArray.toList,this]
 simp
theorem bs_take (s:List UInt8) (i j:Nat):(bs s).extract i j=bs ((s.take j).drop i):=by
 apply ByteArray.ext
 simp [bs,ByteArray.data_extract]
 rw [List.drop_take]
section
variable {n : Int} {l : List S98} {s : List UInt8}
theorem l4_l2 {op of:Int} (ho:1≤op∧op≤5) (hf:0≤of∧of≤119) (HN:(∀ e,Tells n l s e→op<e.f0 ∨ op=e.f0∧of+1≤e.f1)→Ev (fun k=>spec_l4event.l1 k (bs s) (most n l) op (of+1) n l) (evRes n l s)) (d:Nat) :
  ∀ dir:Int,dir+d=2→-1≤dir→(∀ e,Tells n l s e→op<e.f0 ∨ op=e.f0∧(of<e.f1 ∨ of=e.f1∧dir≤e.f2))→Ev (fun k=>spec_l4event.l2 k (bs s) (most n l) op of dir n l) (evRes n l s):=by
 induction d with
 | zero =>
  intro dir hd h0 inv
  refine Ev.step (fun k=>?_) (HN (fun e he=>?_))
  ·rw [spec_l4event.l2,if_neg (by omega),wrap_id (by omega) (by omega)]
  have:=inv e he
  have hp:=ev_parts he.1
  omega
 | succ d ih =>
  intro dir hd h0 inv
  refine Ev.step (fun k=>by rw [spec_l4event.l2,if_pos (by omega),wrap_id (x:=dir+1) (by omega) (by omega)]) ?_
  refine Ev.bind (specEventOk_ev n l op of dir) ?_
  have next:(∀ e,Tells n l s e→¬ (e.f0=op∧e.f1=of∧e.f2=dir))→Ev (fun k=>spec_l4event.l2 k (bs s) (most n l) op of (dir+1) n l) (evRes n l s):=by
   intro hno
   refine ih (dir+1) (by omega) (by omega) (fun e he=>?_)
   have h1:=inv e he
   have h2:=hno e he
   omega
  by_cases he:eventOk n l op of dir=true
  ·refine Ev.ite_pos he ?_
   refine Ev.call (line_f ho hf ⟨h0,by omega⟩) ?_
   by_cases hs:lineN op of dir=s
   ·refine Ev.ite_pos (by rw [bs_toList,bs_toList];exact hs) ?_
    rw [evRes_some (e:=⟨op,of,dir⟩) ⟨he,hs⟩]
    exact Ev.now _
   refine Ev.ite_neg (by rw [bs_toList,bs_toList];exact hs) (next (fun e ht hc=>?_))
   obtain ⟨h1,h2,h3⟩:=hc
   have:=ht.2
   rw [h1,h2,h3] at this
   exact hs this
  refine Ev.ite_neg he (next (fun e ht hc=>?_))
  obtain ⟨h1,h2,h3⟩:=hc
  have:=ht.1
  rw [h1,h2,h3] at this
  exact he this
theorem l4_l1 {op:Int} (hm:most n l≤120) (ho:1≤op∧op≤5) (HN:(∀ e,Tells n l s e→op+1≤e.f0)→Ev (fun k=>spec_l4event.l0 k (bs s) (most n l) (op+1) n l) (evRes n l s)) (d:Nat) :
  ∀ of:Int,(of+d=most n l ∨ most n l≤of∧d=0∧of≤120)→0≤of→(∀ e,Tells n l s e→op<e.f0 ∨ op=e.f0∧of≤e.f1)→Ev (fun k=>spec_l4event.l1 k (bs s) (most n l) op of n l) (evRes n l s):=by
 induction d with
 | zero =>
  intro of hd h0 inv
  refine Ev.step (fun k=>?_) (HN (fun e he=>?_))
  ·rw [spec_l4event.l1,if_neg (by omega),wrap_id (by omega) (by omega)]
  have:=inv e he
  have hp:=ev_most he.1
  omega
 | succ d ih =>
  intro of hd h0 inv
  have hlt:of<most n l:=by omega
  refine Ev.step (fun k=>by rw [spec_l4event.l1,if_pos hlt]) ?_
  refine l4_l2 ho ⟨h0,by omega⟩ (fun hi=>ih (of+1) (by omega) (by omega) hi) 3 (-1) (by omega) (by omega) (fun e he=>?_)
  have:=inv e he
  have hp:=ev_parts he.1
  omega
theorem l4_l0 (hm:most n l≤120) (d:Nat) :
  ∀ op:Int,op+d=6→1≤op→(∀ e,Tells n l s e→op≤e.f0)→Ev (fun k=>spec_l4event.l0 k (bs s) (most n l) op n l) (evRes n l s):=by
 induction d with
 | zero =>
  intro op hd h0 inv
  refine Ev.step (f:=fun _=>some (evRes n l s)) (fun k=>?_) (Ev.now _)
  rw [spec_l4event.l0,if_neg (by omega),evRes_none]
  intro e he
  have:=inv e he
  have hp:=ev_parts he.1
  omega
 | succ d ih =>
  intro op hd h0 inv
  have ho:1≤op∧op≤5:=⟨h0,by omega⟩
  have hw:=word_len op.toNat
  have a1:bs (wordB op.toNat) ++ (⟨#[32]⟩:ByteArray)=bs (wordB op.toNat ++ [32]):=bytes_app _ [32]
  have next:(∀ e,Tells n l s e→¬ e.f0=op)→Ev (fun k=>spec_l4event.l0 k (bs s) (most n l) (op+1) n l) (evRes n l s):=by
   intro hno
   refine ih (op+1) (by omega) (by omega) (fun e he=>?_)
   have:=inv e he
   have:=hno e he
   omega
  have pre:∀ e,Tells n l s e→e.f0=op→∃ r,s=wordB op.toNat ++ [32] ++ r:=by
   intro e he h
   refine ⟨Lib.decDigits e.f1.toNat ++ dirB e.f2,?_⟩
   rw [← he.2,h]
   unfold lineN
   simp
  have j2t:∀ b:Bool,(b=true→∀ e,Tells n l s e→¬ e.f0=op)→Ev (fun k=>spec_l4event.j2 k (bs s) (most n l) op b n l) (evRes n l s):=by
   intro b hb
   cases b with
   | true =>
    refine Ev.step (fun k=>?_) (next (hb rfl))
    rw [spec_l4event.j2,if_pos rfl,wrap_id (by omega) (by omega)]
   | false =>
    have l1s:Ev (fun k=>spec_l4event.l1 k (bs s) (most n l) op 0 n l) (evRes n l s):=by
     by_cases hmn:0≤most n l
     ·refine l4_l1 hm ho (fun hi=>ih (op+1) (by omega) (by omega) hi) (most n l).toNat 0 (by omega) (by omega) (fun e he=>?_)
      have:=inv e he
      have hp:=ev_parts he.1
      omega
     refine l4_l1 hm ho (fun hi=>ih (op+1) (by omega) (by omega) hi) 0 0 (by omega) (by omega) (fun e he=>?_)
     have:=inv e he
     have hp:=ev_parts he.1
     omega
    refine Ev.step (fun k=>?_) l1s
    rw [spec_l4event.j2,if_neg (by simp)]
  refine Ev.step (fun k=>by rw [spec_l4event.l0,if_pos (by omega),show spec_l4words.f=some _ from rfl,Option.bind_some,if_pos (by omega),if_pos (by show op<((6:Nat):Int);omega),words_eq op ho,if_pos (by rw [bs_size];omega),a1]) ?_
  by_cases hlt:s.length<(wordB op.toNat ++ [32]).length
  ·refine Ev.ite_pos (by rw [bs_size,bs_size];omega) (j2t true (fun _ e he hc=>?_))
   obtain ⟨r,hr⟩:=pre e he hc
   rw [hr] at hlt
   simp at hlt
  refine Ev.ite_neg (by rw [bs_size,bs_size];omega) ?_
  refine Ev.ite_pos (by omega) (Ev.ite_pos (by rw [bs_size,bs_size];omega) ?_)
  refine j2t _ (fun hb e he hc=>?_)
  obtain ⟨r,hr⟩:=pre e he hc
  rw [bs_size,Int.toNat_natCast,bs_take,bs_toList,bs_toList,List.drop_zero] at hb
  rw [hr,List.take_left'] at hb
  ·simp at hb
  rfl
theorem l4event_ev (hl:layoutOk n l=0):Ev (fun k=>spec_l4event.f k n l (bs s)) (evRes n l s):=by
 have hn:=lay_n hl
 have hm:most n l≤120:=by unfold most;split <;> omega
 have key:Ev (fun k=>spec_l4event.j0 k (bs s) (most n l) n l) (evRes n l s):=by
  refine Ev.step (fun k=>by rw [spec_l4event.j0]) (l4_l0 hm 5 1 (by omega) (by omega) (fun e he=>?_))
  have hp:=ev_parts he.1
  omega
 unfold spec_l4event.f
 unfold most at key
 by_cases h:n > (l.length:Int)
 ·rw [if_pos h] at key
  exact Ev.ite_pos h key
 rw [if_neg h] at key
 exact Ev.ite_neg h key
end
end Go.Proofs.YtpdnabhpkdchjaaDoor.P
namespace Go.Proofs.YtpdnabhpkdchjaaDoor.P
open Go.RowKit Go.Proofs.YtpdnabhpkdchjaaDoorW.PrintWords Go.Proofs.YtpdnabhpkdchjaaDoorW.PrintLast Go.Proofs.YtpdnabhpkdchjaaDoorW.PrintMore
attribute [local go_sem] max2_int min2_int max_two min_two max_three min_three max_four min_four
set_option linter.unusedVariables false
set_option linter.unusedSimpArgs false
def spec_ReadEvents.l0:Nat→ByteArray→List (S52)→Int→Int→Int→Int→List (S98)→Option (Int × Int × (List (S52)))
 | 0,_,_,_,_,_,_,_=>none
 | k+1,x1,x5,x6,x7,x8,x237000,x237001=>if x8<(x1.size:Int) then (if 0≤x8 then (if (bt x1 x8)=10 then (if 0≤x6 then (if x6≤x8 then (if x8≤(x1.size:Int) then ((spec_l4event.f k x237000 x237001 (x1.extract (x6:Int).toNat (x8:Int).toNat)).bind fun bt239=>(if bt239.2.2.2=true then (if (x5.length:Int)=2000 then (some (3,wrap64 (x7+1),([]:List (S52)))) else (if x5.length<5864062014805 then (spec_ReadEvents.l0 k x1 (x5 ++ [(⟨bt239.1,bt239.2.1,bt239.2.2.1⟩:S52)]) (wrap64 (x8+1)) (wrap64 (x7+1)) (wrap64 (x8+1)) x237000 x237001) else (none))) else (some (3,wrap64 (x7+1),([]:List (S52)))))) else (none)) else (none)) else (none)) else (spec_ReadEvents.l0 k x1 x5 x6 x7 (wrap64 (x8+1)) x237000 x237001)) else (none)) else (if x6<(x1.size:Int) then (some (3,wrap64 (x7+1),([]:List (S52)))) else (some (0,0,x5)))
def spec_ReadEvents.f (k:Nat) (a0_0:Int) (l0_1:List (S98)) (a1:ByteArray):Option (Int × Int × (List (S52))):=(spec_LayoutOk.f k a0_0 l0_1).bind fun t238=>(if t238=0 then (if (a1.size:Int) > 20000 then (some (2,0,([]:List (S52)))) else (spec_ReadEvents.l0 k a1 ([]:List (S52)) 0 0 0 a0_0 l0_1)) else (some (1,0,([]:List (S52)))))
def spec_ReadEvents.T13:Bool × List (List Nat × List Nat):=(true,[([],[]),([],[]),([],[]),([],[]),([1,2,3],[1,2,3]),([0,4],[0,4]),([5],[5]),([6],[6]),([6],[6]),([],[]),([9,7,5,0,1,2,3,4,5,6,7,9],[7,9]),([8,10,0,1,2,3,4,5,6,7,8,9,10],[8])])
def spec_ReadEvents.B13:List Nat:=[0,0,0,0,14,31,63,127,127,0,767,2047]
theorem spec_ReadEvents.tab13:rtab .any (opsOf Tryd.f15 13)=spec_ReadEvents.T13:=by kernel_rfl
theorem spec_ReadEvents.bits13:waitsOk spec_ReadEvents.T13.2 spec_ReadEvents.B13=true:=by kernel_rfl
set_option maxHeartbeats 8000000 in
set_option maxRecDepth 100000 in
theorem spec_ReadEvents.calls (k:Nat) (a0_0:Int) (A0_1:Option Addr) (c0_1:Nat) (l0_1:List (S98)) (a1:ByteArray) (r1:Int) (r2:Int) (r3:List (S52)) (w:World) (hr0_1:Kd.C k98 w A0_1 l0_1.length l0_1) (hc0_1:l0_1.length≤c0_1) (h:spec_ReadEvents.f k a0_0 l0_1 a1=some (r1,r2,r3)) :
  Calls Tryd.prog 15 #[.agg #[.int .i64 a0_0,.slice A0_1 l0_1.length c0_1],.string a1] w fun e w'=>∃ v2_:Value,e=.returned (.agg #[.int .i64 r1,.int .i64 r2,v2_])∧Kd.R k52 52 w' w.heap.size (fun _=>True) v2_ r3∧Below w.heap.size w w':=by
 have hu31:=Tryd.underlying31
 have hu39:=Tryd.underlying39
 have hu52:=Tryd.underlying52
 have HR0_1:=Aside0.mk hr0_1
 have HC0_1:=Aside0.mk hc0_1
 clear hr0_1 hc0_1
 have HB:=Aside0.mk (Below.refl w.heap.size w)
 have H:((spec_LayoutOk.f k a0_0 l0_1).bind fun t238=>(if t238=0 then (if (a1.size:Int) > 20000 then (some (2,0,([]:List (S52)))) else (spec_ReadEvents.l0 k a1 ([]:List (S52)) 0 0 0 a0_0 l0_1)) else (some (1,0,([]:List (S52))))))=some (r1,r2,r3):=h
 clear h
 replace H:=Option.bind_eq_some_iff.mp H
 obtain ⟨t238,A30,H⟩:=H
 replace H:(if t238=0 then (if (a1.size:Int) > 20000 then (some (2,0,([]:List (S52)))) else (spec_ReadEvents.l0 k a1 ([]:List (S52)) 0 0 0 a0_0 l0_1)) else (some (1,0,([]:List (S52)))))=some (r1,r2,r3):=H
 have A3:=Aside0.mk A30
 clear A30
 by_cases c4:t238=0
 ·rw [if_pos c4] at H
  have c4b0:(t238==0)=true:=beq_iff_eq.mpr c4
  have c4b1:(t238 != 0)=false:=bne_eq_false_iff_eq.mpr c4
  clear c4
  by_cases c5:(a1.size:Int) > 20000
  ·rw [if_pos c5] at H
   have c5b0:decide (20000<(a1.size:Int))=true:=decide_eq_true c5
   have c5b1:decide (20000<a1.size)=true:=decide_eq_true (by omega)
   clear c5
   simp only [Option.some.injEq,Prod.mk.injEq] at H
   obtain ⟨rfl,rfl,rfl⟩:=H
   go_enter Tryd.func15,Tryd.ntmps15
   go_wp2_with (first|((with_reducible refine gate_dst (N:=2) rfl ?_);(try (refine gate_guard (by rfl) ?_;dsimp only));refine box_event ?hg (N:=2) ?hd (cs:=#[.int .i64 a0_0,.slice A0_1 l0_1.length c0_1]) (t:=31) ?hr ?_;(case hd=>rfl);(case hg=>rfl);(case hr=>first|(go_simp;done)|(go_simp;rfl));intro gb236 hg w6 hbox hb;have n0_:=Aside0.mk (below_step (by repeat (first|(with_reducible first|exact HB.out|apply below_alloc|apply pw_below_drewN|apply below_drew1)|exact HB.out)) hb);have n1_:=Aside0.mk (hbox);have n2_:=Aside0.mk ((by rw [hg];exact (below_size (by repeat (first|(with_reducible first|exact HB.out|apply below_alloc|apply pw_below_drewN|apply below_drew1)|exact HB.out))):w.heap.size≤gb236));have n3_:=Aside0.mk ((by rw [hg];exact (below_size (by repeat (first|(with_reducible first|exact HB.out|apply below_alloc|apply pw_below_drewN|apply below_drew1)|exact HB.out))):w.heap.size≤gb236));clear HB;have HB:=n0_;have BK236:=n1_;have GW236:=n2_;have GE236:=n3_;clear n0_ n1_ n2_ n3_;clear hb hbox hg)|((with_reducible refine gate_dst (N:=4) rfl ?_);(try (refine gate_guard (by rfl) ?_;dsimp only));refine box_event ?hg (N:=4) ?hd (cs:=#[.int .i64 0,.int .i64 0,.slice none 0 0]) (t:=39) ?hr ?_;(case hd=>rfl);(case hg=>rfl);(case hr=>first|(go_simp;done)|(go_simp;rfl));intro gb237 hg w7 hbox hb;have n0_:=Aside0.mk (blk_below (g:=gb236) (o:=.cells #[.int .i64 a0_0,.slice A0_1 l0_1.length c0_1] 31 (0,0)) (by (with_reducible repeat (first|refine blk_drewN ?_ _|refine blk_drew ?_|refine blk_alloc ?_ _));exact BK236.out) hb);have n1_:=Aside0.mk (below_step (by repeat (first|(with_reducible first|exact HB.out|apply below_alloc|apply pw_below_drewN|apply below_drew1|refine below_set ?_ GE236.out)|exact HB.out)) hb);have n2_:=Aside0.mk (hbox);have n3_:=Aside0.mk ((by rw [hg];exact (below_size (by repeat (first|(with_reducible first|exact HB.out|apply below_alloc|apply pw_below_drewN|apply below_drew1|refine below_set ?_ GE236.out)|exact HB.out))):w.heap.size≤gb237));have n4_:=Aside0.mk ((by rw [hg];exact (below_size (by repeat (first|(with_reducible first|exact HB.out|apply below_alloc|apply pw_below_drewN|apply below_drew1|refine below_set ?_ GE236.out)|exact HB.out))):w.heap.size≤gb237));have n5_:=Aside0.mk ((by rw [hg];exact Nat.ne_of_lt (blk_lt (g:=gb236) (o:=.cells #[.int .i64 a0_0,.slice A0_1 l0_1.length c0_1] 31 (0,0)) (by (with_reducible repeat (first|refine blk_drewN ?_ _|refine blk_drew ?_|refine blk_alloc ?_ _));exact BK236.out)):gb236 ≠ gb237));have n6_:=Aside0.mk ((by rw [hg];exact Nat.ne_of_gt (blk_lt (g:=gb236) (o:=.cells #[.int .i64 a0_0,.slice A0_1 l0_1.length c0_1] 31 (0,0)) (by (with_reducible repeat (first|refine blk_drewN ?_ _|refine blk_drew ?_|refine blk_alloc ?_ _));exact BK236.out)):gb237 ≠ gb236));clear BK236;clear HB;have BK236:=n0_;have HB:=n1_;have BK237:=n2_;have GW237:=n3_;have GE237:=n4_;have NB236_237:=n5_;have NB237_236:=n6_;clear n0_ n1_ n2_ n3_ n4_ n5_ n6_;clear hb hbox hg;have hnb8:=NB236_237.out;have hnc8:=NB237_236.out;have hcz9_0:w7.cell? ⟨gb236,0,none⟩=some (.int .i64 a0_0):=(blk_cell BK236.out 0).trans rfl;have hcz9_1:w7.cell? ⟨gb236,1,none⟩=some (.slice A0_1 l0_1.length c0_1):=(blk_cell BK236.out 1).trans rfl;have hfz9_0:=blk_frozen BK236.out 0;have hfz9_1:=blk_frozen BK236.out 1)|((with_reducible refine gate_callee (f:=38) rfl ?_);refine goesL_ (some 12) rfl rfl Tryd.func38 (by kernel_rfl) rfl #[.agg #[.int .i64 a0_0,.slice A0_1 l0_1.length c0_1]] rfl (by (try simp only [List.map_toArray,List.map_cons,List.map_nil]);first|done|rfl|(simp only [List.length_drop,List.length_take];rfl)) ?_;(with_reducible refine (spec_LayoutOk.calls k a0_0 _ _ l0_1 t238 _ ?side1 ?side2 A3.out).mono ?_);(case side1=>repeat (first|exact (Kd.C_below HR0_1.out HB.out)|(with_reducible refine Kd.C_alloc ?_ _)|(with_reducible refine Kd.C_drewN ?_ _)|(with_reducible refine Kd.C_drew ?_)));(case side2=>exact HC0_1.out);rintro e w10 ⟨rfl,hb⟩;refine ⟨_,rfl,?_⟩;have n0_:=Aside0.mk (blk_below (g:=gb236) (o:=.cells #[.int .i64 a0_0,.slice A0_1 l0_1.length c0_1] 31 (0,0)) (by (with_reducible repeat (first|refine blk_drewN ?_ _|refine blk_drew ?_|refine blk_alloc ?_ _));exact BK236.out) hb);have n1_:=Aside0.mk (blk_below (g:=gb237) (o:=.cells #[.int .i64 0,.int .i64 0,.slice none 0 0] 39 (0,0)) (by (with_reducible repeat (first|refine blk_drewN ?_ _|refine blk_drew ?_|refine blk_alloc ?_ _));exact BK237.out) hb);have n2_:=Aside0.mk (below_step (by repeat (first|(with_reducible first|exact HB.out|apply below_alloc|apply pw_below_drewN|apply below_drew1|refine below_set ?_ GE236.out|refine below_set ?_ GE237.out)|exact HB.out)) hb);clear BK236;clear BK237;clear HB;have BK236:=n0_;have BK237:=n1_;have HB:=n2_;clear n0_ n1_ n2_;(try clear hb);(try clear hb2);(try clear hk);(try clear hi);have hcz11_0:w10.cell? ⟨gb237,0,none⟩=some (.int .i64 0):=(blk_cell BK237.out 0).trans rfl;have hcz11_1:w10.cell? ⟨gb237,1,none⟩=some (.int .i64 0):=(blk_cell BK237.out 1).trans rfl;have hcz11_2:w10.cell? ⟨gb237,2,none⟩=some (.slice none 0 0):=(blk_cell BK237.out 2).trans rfl;have hfz11_0:=blk_frozen BK237.out 0;have hfz11_1:=blk_frozen BK237.out 1;have hfz11_2:=blk_frozen BK237.out 2))
   refine bodyPost_ret (results_cell_row rfl _ _ gb237 39 #[.int .i64 2,.int .i64 0,.slice none 0 0] (0,0) _ rfl (by (with_reducible repeat (first|refine blk_drewN ?_ _|refine blk_drew ?_|refine blk_alloc ?_ _));refine blk_put (cs:=#[.int .i64 2,.int .i64 0,.slice none 0 0]) ?_ 2 _ rfl;(with_reducible repeat (first|refine blk_drewN ?_ _|refine blk_drew ?_|refine blk_alloc ?_ _));refine blk_put (cs:=#[.int .i64 2,.int .i64 0,.slice none 0 0]) ?_ 1 _ rfl;(with_reducible repeat (first|refine blk_drewN ?_ _|refine blk_drew ?_|refine blk_alloc ?_ _));refine blk_put (cs:=#[.int .i64 0,.int .i64 0,.slice none 0 0]) ?_ 0 _ rfl;(with_reducible repeat (first|refine blk_drewN ?_ _|refine blk_drew ?_|refine blk_alloc ?_ _));exact BK237.out) Tryd.underlying39 rfl (by kernel_rfl)) rfl ?_
   exact ⟨_,by first|rfl|(simp [errW_none,errW_some] <;> rfl)|(simp [*,errW_none,errW_some] <;> rfl),by first|exact Kd.R_nil _ _ _ _ _|exact Kd.N_nil _ _ _ _ _|exact Kd.V_nil _ _ _ _ _|exact Kd.Q_nil _ _ _ _ _|exact Kd.S_nil _ _ _ _ _,by repeat (first|(with_reducible first|exact HB.out|apply below_alloc|apply pw_below_drewN|apply below_drew1|refine below_set ?_ GE236.out|refine below_set ?_ GE237.out)|exact HB.out)⟩
  rw [if_neg c5] at H
  have c5b0:decide (20000<(a1.size:Int))=false:=decide_eq_false c5
  have c5b1:decide (20000<a1.size)=false:=decide_eq_false (by omega)
  clear c5
  have H':=Aside0.mk H
  clear H
  go_enter Tryd.func15,Tryd.ntmps15
  go_wp2_with (first|((with_reducible refine gate_dst (N:=2) rfl ?_);(try (refine gate_guard (by rfl) ?_;dsimp only));refine box_event ?hg (N:=2) ?hd (cs:=#[.int .i64 a0_0,.slice A0_1 l0_1.length c0_1]) (t:=31) ?hr ?_;(case hd=>rfl);(case hg=>rfl);(case hr=>first|(go_simp;done)|(go_simp;rfl));intro gb236 hg w12 hbox hb;have n0_:=Aside0.mk (below_step (by repeat (first|(with_reducible first|exact HB.out|apply below_alloc|apply pw_below_drewN|apply below_drew1)|exact HB.out)) hb);have n1_:=Aside0.mk (hbox);have n2_:=Aside0.mk ((by rw [hg];exact (below_size (by repeat (first|(with_reducible first|exact HB.out|apply below_alloc|apply pw_below_drewN|apply below_drew1)|exact HB.out))):w.heap.size≤gb236));have n3_:=Aside0.mk ((by rw [hg];exact (below_size (by repeat (first|(with_reducible first|exact HB.out|apply below_alloc|apply pw_below_drewN|apply below_drew1)|exact HB.out))):w.heap.size≤gb236));clear HB;have HB:=n0_;have BK236:=n1_;have GW236:=n2_;have GE236:=n3_;clear n0_ n1_ n2_ n3_;clear hb hbox hg)|((with_reducible refine gate_dst (N:=4) rfl ?_);(try (refine gate_guard (by rfl) ?_;dsimp only));refine box_event ?hg (N:=4) ?hd (cs:=#[.int .i64 0,.int .i64 0,.slice none 0 0]) (t:=39) ?hr ?_;(case hd=>rfl);(case hg=>rfl);(case hr=>first|(go_simp;done)|(go_simp;rfl));intro gb237 hg w13 hbox hb;have n0_:=Aside0.mk (blk_below (g:=gb236) (o:=.cells #[.int .i64 a0_0,.slice A0_1 l0_1.length c0_1] 31 (0,0)) (by (with_reducible repeat (first|refine blk_drewN ?_ _|refine blk_drew ?_|refine blk_alloc ?_ _));exact BK236.out) hb);have n1_:=Aside0.mk (below_step (by repeat (first|(with_reducible first|exact HB.out|apply below_alloc|apply pw_below_drewN|apply below_drew1|refine below_set ?_ GE236.out)|exact HB.out)) hb);have n2_:=Aside0.mk (hbox);have n3_:=Aside0.mk ((by rw [hg];exact (below_size (by repeat (first|(with_reducible first|exact HB.out|apply below_alloc|apply pw_below_drewN|apply below_drew1|refine below_set ?_ GE236.out)|exact HB.out))):w.heap.size≤gb237));have n4_:=Aside0.mk ((by rw [hg];exact (below_size (by repeat (first|(with_reducible first|exact HB.out|apply below_alloc|apply pw_below_drewN|apply below_drew1|refine below_set ?_ GE236.out)|exact HB.out))):w.heap.size≤gb237));have n5_:=Aside0.mk ((by rw [hg];exact Nat.ne_of_lt (blk_lt (g:=gb236) (o:=.cells #[.int .i64 a0_0,.slice A0_1 l0_1.length c0_1] 31 (0,0)) (by (with_reducible repeat (first|refine blk_drewN ?_ _|refine blk_drew ?_|refine blk_alloc ?_ _));exact BK236.out)):gb236 ≠ gb237));have n6_:=Aside0.mk ((by rw [hg];exact Nat.ne_of_gt (blk_lt (g:=gb236) (o:=.cells #[.int .i64 a0_0,.slice A0_1 l0_1.length c0_1] 31 (0,0)) (by (with_reducible repeat (first|refine blk_drewN ?_ _|refine blk_drew ?_|refine blk_alloc ?_ _));exact BK236.out)):gb237 ≠ gb236));clear BK236;clear HB;have BK236:=n0_;have HB:=n1_;have BK237:=n2_;have GW237:=n3_;have GE237:=n4_;have NB236_237:=n5_;have NB237_236:=n6_;clear n0_ n1_ n2_ n3_ n4_ n5_ n6_;clear hb hbox hg;have hnb14:=NB236_237.out;have hnc14:=NB237_236.out;have hcz15_0:w13.cell? ⟨gb236,0,none⟩=some (.int .i64 a0_0):=(blk_cell BK236.out 0).trans rfl;have hcz15_1:w13.cell? ⟨gb236,1,none⟩=some (.slice A0_1 l0_1.length c0_1):=(blk_cell BK236.out 1).trans rfl;have hfz15_0:=blk_frozen BK236.out 0;have hfz15_1:=blk_frozen BK236.out 1)|((with_reducible refine gate_callee (f:=38) rfl ?_);refine goesL_ (some 12) rfl rfl Tryd.func38 (by kernel_rfl) rfl #[.agg #[.int .i64 a0_0,.slice A0_1 l0_1.length c0_1]] rfl (by (try simp only [List.map_toArray,List.map_cons,List.map_nil]);first|done|rfl|(simp only [List.length_drop,List.length_take];rfl)) ?_;(with_reducible refine (spec_LayoutOk.calls k a0_0 _ _ l0_1 t238 _ ?side1 ?side2 A3.out).mono ?_);(case side1=>repeat (first|exact (Kd.C_below HR0_1.out HB.out)|(with_reducible refine Kd.C_alloc ?_ _)|(with_reducible refine Kd.C_drewN ?_ _)|(with_reducible refine Kd.C_drew ?_)));(case side2=>exact HC0_1.out);rintro e w16 ⟨rfl,hb⟩;refine ⟨_,rfl,?_⟩;have n0_:=Aside0.mk (blk_below (g:=gb236) (o:=.cells #[.int .i64 a0_0,.slice A0_1 l0_1.length c0_1] 31 (0,0)) (by (with_reducible repeat (first|refine blk_drewN ?_ _|refine blk_drew ?_|refine blk_alloc ?_ _));exact BK236.out) hb);have n1_:=Aside0.mk (blk_below (g:=gb237) (o:=.cells #[.int .i64 0,.int .i64 0,.slice none 0 0] 39 (0,0)) (by (with_reducible repeat (first|refine blk_drewN ?_ _|refine blk_drew ?_|refine blk_alloc ?_ _));exact BK237.out) hb);have n2_:=Aside0.mk (below_step (by repeat (first|(with_reducible first|exact HB.out|apply below_alloc|apply pw_below_drewN|apply below_drew1|refine below_set ?_ GE236.out|refine below_set ?_ GE237.out)|exact HB.out)) hb);clear BK236;clear BK237;clear HB;have BK236:=n0_;have BK237:=n1_;have HB:=n2_;clear n0_ n1_ n2_;(try clear hb);(try clear hb2);(try clear hk);(try clear hi)))
  go_loopg [5,6,7,8] k (fun kq v5 v6 v7 v8 w'=>∃ (x5_1:List (S52)) (x6_1:Int) (x7_1:Int) (x8_1:Int) (x238000_1:Int) (x238001_1:Int),v6=.int .i64 x6_1∧v7=.int .i64 x7_1∧v8=.int .i64 x8_1∧Aside0 (spec_ReadEvents.l0 kq a1 x5_1 x6_1 x7_1 x8_1 a0_0 l0_1=some (r1,r2,r3))∧Aside0 (kq≤k)∧Aside0 (Kd.R k52 52 w' w.heap.size (fun _=>True) v5 x5_1)∧Aside0 (w'.heap[gb236]?=some (.cells #[.int .i64 a0_0,(.slice A0_1 l0_1.length c0_1)] 31 (0,0)))∧Aside0 (w'.heap[gb237]?=some (.cells #[.int .i64 x238000_1,.int .i64 x238001_1,(.slice none 0 0)] 39 (0,0)))∧Aside0 (Below w.heap.size w w'))
  case atStart=>exact ⟨(([]:List (S52))),(0),(0),(0),(0),(0),(by first|rfl|(simp;done)|(simp [*];done)),(by first|rfl|(simp;done)|(simp [*];done)),(by first|rfl|(simp;done)|(simp [*];done)),H',⟨Nat.le_refl _⟩,⟨by first|exact Kd.R_nil _ _ _ _ _|exact Kd.N_nil _ _ _ _ _|exact Kd.V_nil _ _ _ _ _|exact Kd.Q_nil _ _ _ _ _|exact Kd.S_nil _ _ _ _ _⟩,⟨by (with_reducible repeat (first|refine blk_drewN ?_ _|refine blk_drew ?_|refine blk_alloc ?_ _));exact BK236.out⟩,⟨by (with_reducible repeat (first|refine blk_drewN ?_ _|refine blk_drew ?_|refine blk_alloc ?_ _));exact BK237.out⟩,⟨by repeat (first|(with_reducible first|exact HB.out|apply below_alloc|apply pw_below_drewN|apply below_drew1|refine below_set ?_ GE236.out|refine below_set ?_ GE237.out)|exact HB.out)⟩⟩
  case round =>
   clear H'
   try clear c1
   try clear p2
   try clear c3
   try clear c4
   try clear c4b0
   try clear c4b1
   try clear c5
   try clear c5b0
   try clear c5b1
   try clear c8
   try clear c14
   try clear c15
   try clear hcz11_0
   try clear hcz11_1
   try clear hcz11_2
   try clear hcz15_0
   try clear hcz15_1
   try clear hcz9_0
   try clear hcz9_1
   try clear hfz11_0
   try clear hfz11_1
   try clear hfz11_2
   try clear hfz15_0
   try clear hfz15_1
   try clear hfz9_0
   try clear hfz9_1
   obtain ⟨x5_1,x6_1,x7_1,x8_1,x238000_1,x238001_1,rfl,rfl,rfl,HA,HK1,HO_5,BK236,BK237,HB⟩:=hrel
   cases gk with
   | zero=>exact absurd HA.out (by simp [spec_ReadEvents.l0])
   | succ k1 =>
    have H:=HA.out
    clear HA
    simp only [spec_ReadEvents.l0] at H
    by_cases c17:x8_1<(a1.size:Int)
    ·rw [if_pos c17] at H
     have c17b0:decide (x8_1<(a1.size:Int))=true:=decide_eq_true c17
     clear c17
     by_cases c18:0≤x8_1
     ·rw [if_pos c18] at H
      have c18b0:decide (0≤x8_1)=true:=decide_eq_true c18
      clear c18
      by_cases c20:(bt a1 x8_1)=10
      ·rw [if_pos c20] at H
       have c20b0:((bt a1 x8_1)==10)=true:=beq_iff_eq.mpr c20
       have c20b1:((bt a1 x8_1) != 10)=false:=bne_eq_false_iff_eq.mpr c20
       clear c20
       by_cases c21:0≤x6_1
       ·rw [if_pos c21] at H
        have c21b0:=eq_true c21
        have c21b1:decide (0≤x6_1)=true:=decide_eq_true c21
        clear c21
        by_cases c22:x6_1≤x8_1
        ·rw [if_pos c22] at H
         have c22b0:=eq_true c22
         have c22b1:decide (x6_1≤x8_1)=true:=decide_eq_true c22
         clear c22
         by_cases c23:x8_1≤(a1.size:Int)
         ·rw [if_pos c23] at H
          have c23b0:=eq_true c23
          have c23b1:decide (x8_1≤(a1.size:Int))=true:=decide_eq_true c23
          clear c23
          replace H:=Option.bind_eq_some_iff.mp H
          obtain ⟨⟨t239,t240,t241,t242⟩,A240,H⟩:=H
          replace H:(if t242=true then (if (x5_1.length:Int)=2000 then (some (3,wrap64 (x7_1+1),([]:List (S52)))) else (if x5_1.length<5864062014805 then (spec_ReadEvents.l0 k1 a1 (x5_1 ++ [(⟨t239,t240,t241⟩:S52)]) (wrap64 (x8_1+1)) (wrap64 (x7_1+1)) (wrap64 (x8_1+1)) a0_0 l0_1) else (none))) else (some (3,wrap64 (x7_1+1),([]:List (S52)))))=some (r1,r2,r3):=H
          have A24:=Aside0.mk A240
          clear A240
          by_cases c25:t242=true
          ·subst c25
           have H1:(if (x5_1.length:Int)=2000 then (some (3,wrap64 (x7_1+1),([]:List (S52)))) else (if x5_1.length<5864062014805 then (spec_ReadEvents.l0 k1 a1 (x5_1 ++ [(⟨t239,t240,t241⟩:S52)]) (wrap64 (x8_1+1)) (wrap64 (x7_1+1)) (wrap64 (x8_1+1)) a0_0 l0_1) else (none)))=some (r1,r2,r3):=by rw [if_pos rfl] at H;exact H
           clear H
           have H:=H1
           clear H1
           by_cases c26:(x5_1.length:Int)=2000
           ·rw [if_pos c26] at H
            have c26b0:((x5_1.length:Int)==2000)=true:=beq_iff_eq.mpr c26
            have c26b1:((x5_1.length:Int) != 2000)=false:=bne_eq_false_iff_eq.mpr c26
            clear c26
            simp only [Option.some.injEq,Prod.mk.injEq] at H
            obtain ⟨rfl,rfl,rfl⟩:=H
            have p19:0≤(x8_1:Int):=of_decide_eq_true (by first|(with_reducible assumption)|assumption)
            have q19:x8_1<(a1.size:Int):=of_decide_eq_true (by first|(with_reducible assumption)|assumption)
            have hx19:=bt_at a1 x8_1
            replace p19:=eq_true p19
            replace q19:=eq_true q19
            try go_wp2
            have n0_:=Aside0.mk (Kd.R_drew HO_5.out)
            have n1_:=Aside0.mk (blk_drew BK236.out)
            have n2_:=Aside0.mk (blk_drew BK237.out)
            have n3_:=Aside0.mk (below_drew1 HB.out)
            clear HO_5
            clear BK236
            clear BK237
            clear HB
            have HO_5:=n0_
            have BK236:=n1_
            have BK237:=n2_
            have HB:=n3_
            clear n0_ n1_ n2_ n3_
            refine start_ (n:=12) (S:=fun w'=>w'.cell? ⟨gb236,0,none⟩=some (.int .i64 a0_0)∧w'.cell? ⟨gb236,1,none⟩=some (.slice A0_1 l0_1.length c0_1)) (ds:=[]) #[false,false,false,false,false,false,false,false,false,false,false,false] (by kernel_rfl) rfl rfl ⟨(blk_cell BK236.out 0).trans rfl,(blk_cell BK236.out 1).trans rfl⟩ (fun hHeld=>?_);refine with_tabW spec_ReadEvents.tab13 spec_ReadEvents.bits13 (fun HT_ HW_=>?_)
            generalize wr.drew=w27 at HO_5 BK236 BK237 HB hHeld ⊢
            refine pure_ (i:=1) (N:=some 33) (v:=?_) (a':=?_) #[false,true,false,false,false,false,false,false,false,false,false,false] rfl rfl (any_of HT_.out (by kernel_rfl)) (fun _ _ _ h=>h) (Or.inl ⟨by rfl,?_⟩) ?_ ?_
            rotate_left
            ·intro w'
             go_simp
             with_reducible rfl
            rotate_left
            ·simp only [Act.put,List.setIfInBounds_toArray,List.set_cons_zero,List.set_cons_succ,i64_w,i32_w]
             rfl
            refine pure_ (i:=2) (N:=some 34) (v:=?_) (a':=?_) #[false,true,true,false,false,false,false,false,false,false,false,false] rfl rfl (any_of HT_.out (by kernel_rfl)) (fun _ _ _ h=>h) (Or.inl ⟨by rfl,?_⟩) ?_ ?_
            rotate_left
            ·intro w'
             go_simp
             with_reducible rfl
            rotate_left
            ·simp only [Act.put,List.setIfInBounds_toArray,List.set_cons_zero,List.set_cons_succ,i64_w,i32_w]
             rfl
            refine pure_ (i:=3) (N:=some 35) (v:=?_) (a':=?_) #[false,true,true,true,false,false,false,false,false,false,false,false] rfl rfl (any_of HT_.out (by kernel_rfl)) (fun _ _ _ h=>h) (Or.inl ⟨by rfl,?_⟩) ?_ ?_
            rotate_left
            ·intro w'
             go_simp
             with_reducible rfl
            rotate_left
            ·simp only [Act.put,List.setIfInBounds_toArray,List.set_cons_zero,List.set_cons_succ,i64_w,i32_w]
             rfl
            refine pure_ (i:=4) (N:=some 36) (v:=?_) (a':=?_) #[false,true,true,true,true,false,false,false,false,false,false,false] rfl rfl (any_of HT_.out (by kernel_rfl)) (fun _ _ _ h=>h) (Or.inl ⟨by rfl,?_⟩) ?_ ?_
            rotate_left
            ·intro w'
             go_simp
             with_reducible rfl
            rotate_left
            ·simp only [Act.put,List.setIfInBounds_toArray,List.set_cons_zero,List.set_cons_succ,i64_w,i32_w]
             rfl
            refine take_ (i:=0) (N:=some 32) (v:=?_) (a':=?_) #[true,true,true,true,true,false,false,false,false,false,false,false] rfl rfl (take_ofW HT_.out HW_.out (by kernel_rfl)) (fun _ _ _ h=>h) (Or.inl ⟨by rfl,?_⟩) hHeld ?_ ?_
            rotate_left
            ·rintro w' ⟨s0,s1⟩
             go_simp
             with_reducible rfl
            rotate_left
            ·simp only [Act.put,List.setIfInBounds_toArray,List.set_cons_zero,List.set_cons_succ,i64_w,i32_w]
             rfl
            refine join_ (σ:=Nat) 2 #[true,true,true,true,true,true,true,true,true,true,false,false] (fun s_=>[(37,.tuple #[.agg #[.int .i64 t239,.int .i64 t240,.int .i64 t241],.bool true]),(9,.pointer (some ⟨s_,0,none⟩)),(31,.tuple #[.agg #[.int .i64 t239,.int .i64 t240,.int .i64 t241],.bool true]),(38,.agg #[.int .i64 t239,.int .i64 t240,.int .i64 t241]),(39,.bool true)]) (fun s_ w'=>(w'.cell? ⟨gb236,0,none⟩=some (.int .i64 a0_0)∧w'.cell? ⟨gb236,1,none⟩=some (.slice A0_1 l0_1.length c0_1))∧(Kd.R k52 52 w' w.heap.size (fun k_=>k_ ≠ s_) u5 x5_1)∧(w'.heap[gb236]?=some (.cells #[.int .i64 a0_0,.slice A0_1 l0_1.length c0_1] 31 (0,0)))∧(w'.heap[gb237]?=some (.cells #[.int .i64 x238000_1,.int .i64 x238001_1,.slice none 0 0] 39 (0,0)))∧(w'.heap[s_]?=some (.cells #[.int .i64 0,.int .i64 0,.int .i64 0] 52 (0,0)))∧(w.heap.size≤s_)∧(w.heap.size≤s_)∧(gb236 ≠ s_)∧(s_ ≠ gb236)∧(gb237 ≠ s_)∧(s_ ≠ gb237)∧(Below w.heap.size w w')) ?_ ?_
            rotate_left
            ·intro hCont
             refine two_ (i:=5) (j:=9) (Ni:=some 37) (Nj:=some 9) #[true,true,true,true,true,true,false,false,false,false,false,false] #[true,true,true,true,true,false,false,false,false,true,false,false] rfl rfl rfl rfl (two_of HT_.out (by kernel_rfl)) (by decide) (by decide) (fun K hK=>?_) (fun K hK=>?_)
             ·skip
              refine goes_ Tryd.func39 (by kernel_rfl) rfl #[.agg #[.int .i64 a0_0,.slice A0_1 l0_1.length c0_1],.string (a1.extract (x6_1:Int).toNat (x8_1:Int).toNat)] (by rfl) rfl rfl (by (try simp only [List.map_toArray,List.map_cons,List.map_nil]);first|done|rfl|(simp only [List.length_drop,List.length_take];rfl)) ?_
              with_reducible refine (spec_l4event.calls k1 a0_0 _ _ l0_1 (a1.extract (x6_1:Int).toNat (x8_1:Int).toNat) t239 t240 t241 true _ ?side1 ?side2 A24.out).mono ?_
              (case side1=>repeat (first|exact (Kd.C_below HR0_1.out HB.out)|(with_reducible refine Kd.C_alloc ?_ _)|(with_reducible refine Kd.C_drewN ?_ _)|(with_reducible refine Kd.C_drew ?_)))
              (case side2=>exact HC0_1.out)
              rintro e w28 ⟨rfl,hb⟩
              refine ⟨_,rfl,?_⟩
              have n0_:=Aside0.mk (Kd.R_below (by (with_reducible repeat (first|apply Kd.R_alloc|apply Kd.R_drewN|apply Kd.R_drew));exact HO_5.out) hb)
              have n1_:=Aside0.mk (blk_below (g:=gb236) (o:=.cells #[.int .i64 a0_0,.slice A0_1 l0_1.length c0_1] 31 (0,0)) (by (with_reducible repeat (first|refine blk_drewN ?_ _|refine blk_drew ?_|refine blk_alloc ?_ _));exact BK236.out) hb)
              have n2_:=Aside0.mk (blk_below (g:=gb237) (o:=.cells #[.int .i64 x238000_1,.int .i64 x238001_1,.slice none 0 0] 39 (0,0)) (by (with_reducible repeat (first|refine blk_drewN ?_ _|refine blk_drew ?_|refine blk_alloc ?_ _));exact BK237.out) hb)
              have n3_:=Aside0.mk (below_step (by repeat (first|(with_reducible first|exact HB.out|apply below_alloc|apply pw_below_drewN|apply below_drew1|refine below_set ?_ GE236.out|refine below_set ?_ GE237.out)|exact HB.out)) hb)
              clear HO_5
              clear BK236
              clear BK237
              clear HB
              have HO_5:=n0_
              have BK236:=n1_
              have BK237:=n2_
              have HB:=n3_
              clear n0_ n1_ n2_ n3_
              (try clear hb)
              (try clear hb2)
              (try clear hk)
              (try clear hi)
              refine hK.out _ _ ⟨(blk_cell BK236.out 0).trans rfl,(blk_cell BK236.out 1).trans rfl⟩ (fun hHeld=>?_)
              clear hK K
              refine norm_ (a':=?_) ?_ ?_
              rotate_left
              ·show Act.put _ (some 37) _=_
               simp only [Act.put,List.setIfInBounds_toArray,List.set_cons_zero,List.set_cons_succ,i64_w,i32_w]
               rfl
              refine pure_ (i:=6) (N:=some 31) (v:=?_) (a':=?_) #[true,true,true,true,true,true,true,false,false,false,false,false] rfl rfl (any_of HT_.out (by kernel_rfl)) (fun _ _ _ h=>h) (Or.inl ⟨by rfl,?_⟩) ?_ ?_
              rotate_left
              ·intro w'
               go_simp
               with_reducible rfl
              rotate_left
              ·simp only [Act.put,List.setIfInBounds_toArray,List.set_cons_zero,List.set_cons_succ,i64_w,i32_w]
               rfl
              refine pure_ (i:=7) (N:=some 38) (v:=?_) (a':=?_) #[true,true,true,true,true,true,true,true,false,false,false,false] rfl rfl (any_of HT_.out (by kernel_rfl)) (fun _ _ _ h=>h) (Or.inl ⟨by rfl,?_⟩) ?_ ?_
              rotate_left
              ·intro w'
               go_simp
               with_reducible rfl
              rotate_left
              ·simp only [Act.put,List.setIfInBounds_toArray,List.set_cons_zero,List.set_cons_succ,i64_w,i32_w]
               rfl
              refine pure_ (i:=8) (N:=some 39) (v:=?_) (a':=?_) #[true,true,true,true,true,true,true,true,true,false,false,false] rfl rfl (any_of HT_.out (by kernel_rfl)) (fun _ _ _ h=>h) (Or.inl ⟨by rfl,?_⟩) ?_ ?_
              rotate_left
              ·intro w'
               go_simp
               with_reducible rfl
              rotate_left
              ·simp only [Act.put,List.setIfInBounds_toArray,List.set_cons_zero,List.set_cons_succ,i64_w,i32_w]
               rfl
              refine one_ (i:=9) (N:=some 9) #[true,true,true,true,true,true,true,true,true,true,false,false] rfl rfl (one_of HT_.out (by kernel_rfl)) (by decide) (fun K hK=>?_)
              refine box_step ?hg (N:=9) ?hd (cs:=#[.int .i64 0,.int .i64 0,.int .i64 0]) (t:=52) ?hr ?_;(case hd=>rfl);(case hg=>rfl);(case hr=>first|(go_simp;done)|(go_simp;rfl))
              intro gb243 hg w29 hbox hb
              have n0_:=Aside0.mk (Kd.R_below (Kd.R_elderB (by (with_reducible repeat (first|apply Kd.R_alloc|apply Kd.R_drewN|apply Kd.R_drew));exact HO_5.out) gb243 (Nat.le_of_eq hg.symm)) hb)
              have n1_:=Aside0.mk (blk_below (g:=gb236) (o:=.cells #[.int .i64 a0_0,.slice A0_1 l0_1.length c0_1] 31 (0,0)) (by (with_reducible repeat (first|refine blk_drewN ?_ _|refine blk_drew ?_|refine blk_alloc ?_ _));exact BK236.out) hb)
              have n2_:=Aside0.mk (blk_below (g:=gb237) (o:=.cells #[.int .i64 x238000_1,.int .i64 x238001_1,.slice none 0 0] 39 (0,0)) (by (with_reducible repeat (first|refine blk_drewN ?_ _|refine blk_drew ?_|refine blk_alloc ?_ _));exact BK237.out) hb)
              have n3_:=Aside0.mk (below_step (by repeat (first|(with_reducible first|exact HB.out|apply below_alloc|apply pw_below_drewN|apply below_drew1|refine below_set ?_ GE236.out|refine below_set ?_ GE237.out)|exact HB.out)) hb)
              have n4_:=Aside0.mk (hbox)
              have n5_:=Aside0.mk ((by rw [hg];exact (below_size (by repeat (first|(with_reducible first|exact HB.out|apply below_alloc|apply pw_below_drewN|apply below_drew1|refine below_set ?_ GE236.out|refine below_set ?_ GE237.out)|exact HB.out))):w.heap.size≤gb243))
              have n6_:=Aside0.mk ((by rw [hg];exact (below_size (by repeat (first|(with_reducible first|exact HB.out|apply below_alloc|apply pw_below_drewN|apply below_drew1|refine below_set ?_ GE236.out|refine below_set ?_ GE237.out)|exact HB.out))):w.heap.size≤gb243))
              have n7_:=Aside0.mk ((by rw [hg];exact Nat.ne_of_lt (blk_lt (g:=gb236) (o:=.cells #[.int .i64 a0_0,.slice A0_1 l0_1.length c0_1] 31 (0,0)) (by (with_reducible repeat (first|refine blk_drewN ?_ _|refine blk_drew ?_|refine blk_alloc ?_ _));exact BK236.out)):gb236 ≠ gb243))
              have n8_:=Aside0.mk ((by rw [hg];exact Nat.ne_of_gt (blk_lt (g:=gb236) (o:=.cells #[.int .i64 a0_0,.slice A0_1 l0_1.length c0_1] 31 (0,0)) (by (with_reducible repeat (first|refine blk_drewN ?_ _|refine blk_drew ?_|refine blk_alloc ?_ _));exact BK236.out)):gb243 ≠ gb236))
              have n9_:=Aside0.mk ((by rw [hg];exact Nat.ne_of_lt (blk_lt (g:=gb237) (o:=.cells #[.int .i64 x238000_1,.int .i64 x238001_1,.slice none 0 0] 39 (0,0)) (by (with_reducible repeat (first|refine blk_drewN ?_ _|refine blk_drew ?_|refine blk_alloc ?_ _));exact BK237.out)):gb237 ≠ gb243))
              have n10_:=Aside0.mk ((by rw [hg];exact Nat.ne_of_gt (blk_lt (g:=gb237) (o:=.cells #[.int .i64 x238000_1,.int .i64 x238001_1,.slice none 0 0] 39 (0,0)) (by (with_reducible repeat (first|refine blk_drewN ?_ _|refine blk_drew ?_|refine blk_alloc ?_ _));exact BK237.out)):gb243 ≠ gb237))
              clear HO_5
              clear BK236
              clear BK237
              clear HB
              have HO_5:=n0_
              have BK236:=n1_
              have BK237:=n2_
              have HB:=n3_
              have BK243:=n4_
              have GW243:=n5_
              have GE243:=n6_
              have NB236_243:=n7_
              have NB243_236:=n8_
              have NB237_243:=n9_
              have NB243_237:=n10_
              clear n0_ n1_ n2_ n3_ n4_ n5_ n6_ n7_ n8_ n9_ n10_
              clear hb hbox hg
              refine hK.out _ _ ⟨(blk_cell BK236.out 0).trans rfl,(blk_cell BK236.out 1).trans rfl⟩ (fun hHeld=>?_)
              clear hK K
              refine norm_ (a':=?_) ?_ ?_
              rotate_left
              ·show Act.put _ (some 9) _=_
               simp only [Act.put,List.setIfInBounds_toArray,List.set_cons_zero,List.set_cons_succ,i64_w,i32_w]
               rfl
              exact norm_ (by simp only [putAll,Act.put,List.setIfInBounds_toArray,List.set_cons_zero,List.set_cons_succ]) (hCont (gb243) _ ⟨hHeld,(by (with_reducible repeat (first|apply Kd.R_alloc|apply Kd.R_drewN|apply Kd.R_drew));exact Kd.R_mono HO_5.out (fun _ hk=>hk.2)),(by (with_reducible repeat (first|refine blk_drewN ?_ _|refine blk_drew ?_|refine blk_alloc ?_ _));exact BK236.out),(by (with_reducible repeat (first|refine blk_drewN ?_ _|refine blk_drew ?_|refine blk_alloc ?_ _));exact BK237.out),(by (with_reducible repeat (first|refine blk_drewN ?_ _|refine blk_drew ?_|refine blk_alloc ?_ _));exact BK243.out),GW243.out,GE243.out,NB236_243.out,NB243_236.out,NB237_243.out,NB243_237.out,(by repeat (first|(with_reducible first|exact HB.out|apply below_alloc|apply pw_below_drewN|apply below_drew1|refine below_set ?_ GE236.out|refine below_set ?_ GE237.out|refine below_set ?_ GE243.out)|exact HB.out))⟩)
             skip
             refine box_step ?hg (N:=9) ?hd (cs:=#[.int .i64 0,.int .i64 0,.int .i64 0]) (t:=52) ?hr ?_;(case hd=>rfl);(case hg=>rfl);(case hr=>first|(go_simp;done)|(go_simp;rfl))
             intro gb243 hg w28 hbox hb
             have n0_:=Aside0.mk (Kd.R_below (Kd.R_elderB (by (with_reducible repeat (first|apply Kd.R_alloc|apply Kd.R_drewN|apply Kd.R_drew));exact HO_5.out) gb243 (Nat.le_of_eq hg.symm)) hb)
             have n1_:=Aside0.mk (blk_below (g:=gb236) (o:=.cells #[.int .i64 a0_0,.slice A0_1 l0_1.length c0_1] 31 (0,0)) (by (with_reducible repeat (first|refine blk_drewN ?_ _|refine blk_drew ?_|refine blk_alloc ?_ _));exact BK236.out) hb)
             have n2_:=Aside0.mk (blk_below (g:=gb237) (o:=.cells #[.int .i64 x238000_1,.int .i64 x238001_1,.slice none 0 0] 39 (0,0)) (by (with_reducible repeat (first|refine blk_drewN ?_ _|refine blk_drew ?_|refine blk_alloc ?_ _));exact BK237.out) hb)
             have n3_:=Aside0.mk (below_step (by repeat (first|(with_reducible first|exact HB.out|apply below_alloc|apply pw_below_drewN|apply below_drew1|refine below_set ?_ GE236.out|refine below_set ?_ GE237.out)|exact HB.out)) hb)
             have n4_:=Aside0.mk (hbox)
             have n5_:=Aside0.mk ((by rw [hg];exact (below_size (by repeat (first|(with_reducible first|exact HB.out|apply below_alloc|apply pw_below_drewN|apply below_drew1|refine below_set ?_ GE236.out|refine below_set ?_ GE237.out)|exact HB.out))):w.heap.size≤gb243))
             have n6_:=Aside0.mk ((by rw [hg];exact (below_size (by repeat (first|(with_reducible first|exact HB.out|apply below_alloc|apply pw_below_drewN|apply below_drew1|refine below_set ?_ GE236.out|refine below_set ?_ GE237.out)|exact HB.out))):w.heap.size≤gb243))
             have n7_:=Aside0.mk ((by rw [hg];exact Nat.ne_of_lt (blk_lt (g:=gb236) (o:=.cells #[.int .i64 a0_0,.slice A0_1 l0_1.length c0_1] 31 (0,0)) (by (with_reducible repeat (first|refine blk_drewN ?_ _|refine blk_drew ?_|refine blk_alloc ?_ _));exact BK236.out)):gb236 ≠ gb243))
             have n8_:=Aside0.mk ((by rw [hg];exact Nat.ne_of_gt (blk_lt (g:=gb236) (o:=.cells #[.int .i64 a0_0,.slice A0_1 l0_1.length c0_1] 31 (0,0)) (by (with_reducible repeat (first|refine blk_drewN ?_ _|refine blk_drew ?_|refine blk_alloc ?_ _));exact BK236.out)):gb243 ≠ gb236))
             have n9_:=Aside0.mk ((by rw [hg];exact Nat.ne_of_lt (blk_lt (g:=gb237) (o:=.cells #[.int .i64 x238000_1,.int .i64 x238001_1,.slice none 0 0] 39 (0,0)) (by (with_reducible repeat (first|refine blk_drewN ?_ _|refine blk_drew ?_|refine blk_alloc ?_ _));exact BK237.out)):gb237 ≠ gb243))
             have n10_:=Aside0.mk ((by rw [hg];exact Nat.ne_of_gt (blk_lt (g:=gb237) (o:=.cells #[.int .i64 x238000_1,.int .i64 x238001_1,.slice none 0 0] 39 (0,0)) (by (with_reducible repeat (first|refine blk_drewN ?_ _|refine blk_drew ?_|refine blk_alloc ?_ _));exact BK237.out)):gb243 ≠ gb237))
             clear HO_5
             clear BK236
             clear BK237
             clear HB
             have HO_5:=n0_
             have BK236:=n1_
             have BK237:=n2_
             have HB:=n3_
             have BK243:=n4_
             have GW243:=n5_
             have GE243:=n6_
             have NB236_243:=n7_
             have NB243_236:=n8_
             have NB237_243:=n9_
             have NB243_237:=n10_
             clear n0_ n1_ n2_ n3_ n4_ n5_ n6_ n7_ n8_ n9_ n10_
             clear hb hbox hg
             refine hK.out _ _ ⟨(blk_cell BK236.out 0).trans rfl,(blk_cell BK236.out 1).trans rfl⟩ (fun hHeld=>?_)
             clear hK K
             refine norm_ (a':=?_) ?_ ?_
             rotate_left
             ·show Act.put _ (some 9) _=_
              simp only [Act.put,List.setIfInBounds_toArray,List.set_cons_zero,List.set_cons_succ,i64_w,i32_w]
              rfl
             refine one_ (i:=5) (N:=some 37) #[true,true,true,true,true,true,false,false,false,true,false,false] rfl rfl (one_of HT_.out (by kernel_rfl)) (by decide) (fun K hK=>?_)
             refine goes_ Tryd.func39 (by kernel_rfl) rfl #[.agg #[.int .i64 a0_0,.slice A0_1 l0_1.length c0_1],.string (a1.extract (x6_1:Int).toNat (x8_1:Int).toNat)] (by rfl) rfl rfl (by (try simp only [List.map_toArray,List.map_cons,List.map_nil]);first|done|rfl|(simp only [List.length_drop,List.length_take];rfl)) ?_
             with_reducible refine (spec_l4event.calls k1 a0_0 _ _ l0_1 (a1.extract (x6_1:Int).toNat (x8_1:Int).toNat) t239 t240 t241 true _ ?side1 ?side2 A24.out).mono ?_
             (case side1=>repeat (first|exact (Kd.C_below HR0_1.out HB.out)|(with_reducible refine Kd.C_alloc ?_ _)|(with_reducible refine Kd.C_drewN ?_ _)|(with_reducible refine Kd.C_drew ?_)))
             (case side2=>exact HC0_1.out)
             rintro e w29 ⟨rfl,hb⟩
             refine ⟨_,rfl,?_⟩
             have n0_:=Aside0.mk (Kd.R_below (by (with_reducible repeat (first|apply Kd.R_alloc|apply Kd.R_drewN|apply Kd.R_drew));exact HO_5.out) hb)
             have n1_:=Aside0.mk (blk_below (g:=gb236) (o:=.cells #[.int .i64 a0_0,.slice A0_1 l0_1.length c0_1] 31 (0,0)) (by (with_reducible repeat (first|refine blk_drewN ?_ _|refine blk_drew ?_|refine blk_alloc ?_ _));exact BK236.out) hb)
             have n2_:=Aside0.mk (blk_below (g:=gb237) (o:=.cells #[.int .i64 x238000_1,.int .i64 x238001_1,.slice none 0 0] 39 (0,0)) (by (with_reducible repeat (first|refine blk_drewN ?_ _|refine blk_drew ?_|refine blk_alloc ?_ _));exact BK237.out) hb)
             have n3_:=Aside0.mk (blk_below (g:=gb243) (o:=.cells #[.int .i64 0,.int .i64 0,.int .i64 0] 52 (0,0)) (by (with_reducible repeat (first|refine blk_drewN ?_ _|refine blk_drew ?_|refine blk_alloc ?_ _));exact BK243.out) hb)
             have n4_:=Aside0.mk (below_step (by repeat (first|(with_reducible first|exact HB.out|apply below_alloc|apply pw_below_drewN|apply below_drew1|refine below_set ?_ GE236.out|refine below_set ?_ GE237.out|refine below_set ?_ GE243.out)|exact HB.out)) hb)
             clear HO_5
             clear BK236
             clear BK237
             clear BK243
             clear HB
             have HO_5:=n0_
             have BK236:=n1_
             have BK237:=n2_
             have BK243:=n3_
             have HB:=n4_
             clear n0_ n1_ n2_ n3_ n4_
             (try clear hb)
             (try clear hb2)
             (try clear hk)
             (try clear hi)
             refine hK.out _ _ ⟨(blk_cell BK236.out 0).trans rfl,(blk_cell BK236.out 1).trans rfl⟩ (fun hHeld=>?_)
             clear hK K
             refine norm_ (a':=?_) ?_ ?_
             rotate_left
             ·show Act.put _ (some 37) _=_
              simp only [Act.put,List.setIfInBounds_toArray,List.set_cons_zero,List.set_cons_succ,i64_w,i32_w]
              rfl
             refine pure_ (i:=6) (N:=some 31) (v:=?_) (a':=?_) #[true,true,true,true,true,true,true,false,false,true,false,false] rfl rfl (any_of HT_.out (by kernel_rfl)) (fun _ _ _ h=>h) (Or.inl ⟨by rfl,?_⟩) ?_ ?_
             rotate_left
             ·intro w'
              go_simp
              with_reducible rfl
             rotate_left
             ·simp only [Act.put,List.setIfInBounds_toArray,List.set_cons_zero,List.set_cons_succ,i64_w,i32_w]
              rfl
             refine pure_ (i:=7) (N:=some 38) (v:=?_) (a':=?_) #[true,true,true,true,true,true,true,true,false,true,false,false] rfl rfl (any_of HT_.out (by kernel_rfl)) (fun _ _ _ h=>h) (Or.inl ⟨by rfl,?_⟩) ?_ ?_
             rotate_left
             ·intro w'
              go_simp
              with_reducible rfl
             rotate_left
             ·simp only [Act.put,List.setIfInBounds_toArray,List.set_cons_zero,List.set_cons_succ,i64_w,i32_w]
              rfl
             refine pure_ (i:=8) (N:=some 39) (v:=?_) (a':=?_) #[true,true,true,true,true,true,true,true,true,true,false,false] rfl rfl (any_of HT_.out (by kernel_rfl)) (fun _ _ _ h=>h) (Or.inl ⟨by rfl,?_⟩) ?_ ?_
             rotate_left
             ·intro w'
              go_simp
              with_reducible rfl
             rotate_left
             ·simp only [Act.put,List.setIfInBounds_toArray,List.set_cons_zero,List.set_cons_succ,i64_w,i32_w]
              rfl
             exact norm_ (by simp only [putAll,Act.put,List.setIfInBounds_toArray,List.set_cons_zero,List.set_cons_succ]) (hCont (gb243) _ ⟨hHeld,(by (with_reducible repeat (first|apply Kd.R_alloc|apply Kd.R_drewN|apply Kd.R_drew));exact Kd.R_mono HO_5.out (fun _ hk=>hk.2)),(by (with_reducible repeat (first|refine blk_drewN ?_ _|refine blk_drew ?_|refine blk_alloc ?_ _));exact BK236.out),(by (with_reducible repeat (first|refine blk_drewN ?_ _|refine blk_drew ?_|refine blk_alloc ?_ _));exact BK237.out),(by (with_reducible repeat (first|refine blk_drewN ?_ _|refine blk_drew ?_|refine blk_alloc ?_ _));exact BK243.out),GW243.out,GE243.out,NB236_243.out,NB243_236.out,NB237_243.out,NB243_237.out,(by repeat (first|(with_reducible first|exact HB.out|apply below_alloc|apply pw_below_drewN|apply below_drew1|refine below_set ?_ GE236.out|refine below_set ?_ GE237.out|refine below_set ?_ GE243.out)|exact HB.out))⟩)
            rintro gb243 w30 ⟨hS_,h0_,h1_,h2_,h3_,h4_,h5_,h6_,h7_,h8_,h9_,h10_⟩
            have n0_:Aside0 (Kd.R k52 52 w30 w.heap.size (fun k_=>k_ ≠ gb243) u5 x5_1):=⟨h0_⟩
            have n1_:Aside0 (w30.heap[gb236]?=some (.cells #[.int .i64 a0_0,.slice A0_1 l0_1.length c0_1] 31 (0,0))):=⟨h1_⟩
            have n2_:Aside0 (w30.heap[gb237]?=some (.cells #[.int .i64 x238000_1,.int .i64 x238001_1,.slice none 0 0] 39 (0,0))):=⟨h2_⟩
            have n3_:Aside0 (w30.heap[gb243]?=some (.cells #[.int .i64 0,.int .i64 0,.int .i64 0] 52 (0,0))):=⟨h3_⟩
            have n4_:Aside0 (w.heap.size≤gb243):=⟨h4_⟩
            have n5_:Aside0 (w.heap.size≤gb243):=⟨h5_⟩
            have n6_:Aside0 (gb236 ≠ gb243):=⟨h6_⟩
            have n7_:Aside0 (gb243 ≠ gb236):=⟨h7_⟩
            have n8_:Aside0 (gb237 ≠ gb243):=⟨h8_⟩
            have n9_:Aside0 (gb243 ≠ gb237):=⟨h9_⟩
            have n10_:Aside0 (Below w.heap.size w w30):=⟨h10_⟩
            clear HO_5
            clear BK236
            clear BK237
            clear HB
            clear h0_ h1_ h2_ h3_ h4_ h5_ h6_ h7_ h8_ h9_ h10_
            have HO_5:=n0_
            have BK236:=n1_
            have BK237:=n2_
            have BK243:=n3_
            have GW243:=n4_
            have GE243:=n5_
            have NB236_243:=n6_
            have NB243_236:=n7_
            have NB237_243:=n8_
            have NB243_237:=n9_
            have HB:=n10_
            clear n0_ n1_ n2_ n3_ n4_ n5_ n6_ n7_ n8_ n9_ n10_
            have hHeld:w30.cell? ⟨gb236,0,none⟩=some (.int .i64 a0_0)∧w30.cell? ⟨gb236,1,none⟩=some (.slice A0_1 l0_1.length c0_1):=hS_
            refine norm_ (a':=?_) ?_ ?_
            rotate_left
            ·simp only [putAll,Act.put,List.setIfInBounds_toArray,List.set_cons_zero,List.set_cons_succ]
             rfl
            refine one_ (i:=10) (N:=none) #[true,true,true,true,true,true,true,true,true,true,true,false] rfl rfl (one_of HT_.out (by kernel_rfl)) (by decide) (fun K hK=>?_)
            have hs31:w30.cell? ⟨gb243,0,none⟩=some (.int .i64 0):=(blk_cell BK243.out 0).trans rfl
            have hfs31:=blk_frozen BK243.out 0
            have hns31_0:=NB236_243.out
            have hns31_1:=NB237_243.out
            have hms31_0:=NB243_236.out
            have hms31_1:=NB243_237.out
            have hs32:w30.cell? ⟨gb243,1,none⟩=some (.int .i64 0):=(blk_cell BK243.out 1).trans rfl
            have hfs32:=blk_frozen BK243.out 1
            have hns32_0:=NB236_243.out
            have hns32_1:=NB237_243.out
            have hms32_0:=NB243_236.out
            have hms32_1:=NB243_237.out
            have hs33:w30.cell? ⟨gb243,2,none⟩=some (.int .i64 0):=(blk_cell BK243.out 2).trans rfl
            have hfs33:=blk_frozen BK243.out 2
            have hns33_0:=NB236_243.out
            have hns33_1:=NB237_243.out
            have hms33_0:=NB243_236.out
            have hms33_1:=NB243_237.out
            refine skip_ (w1:=?_) (by rfl) rfl ?_ ?_
            rotate_left
            ·go_simp
             rfl
            refine hK.out _ _ ⟨((cell_far (p:=⟨gb243,_,none⟩) NB236_243.out _).trans (((cell_far (p:=⟨gb243,_,none⟩) NB236_243.out _).trans (((cell_far (p:=⟨gb243,_,none⟩) NB236_243.out _).trans (hHeld.1)))))),((cell_far (p:=⟨gb243,_,none⟩) NB236_243.out _).trans (((cell_far (p:=⟨gb243,_,none⟩) NB236_243.out _).trans (((cell_far (p:=⟨gb243,_,none⟩) NB236_243.out _).trans (hHeld.2))))))⟩ (fun hHeld=>?_)
            clear hK K
            refine pure_ (i:=11) (N:=some 10) (v:=?_) (a':=?_) #[true,true,true,true,true,true,true,true,true,true,true,true] rfl rfl (any_of HT_.out (by kernel_rfl)) (fun _ _ _ h=>h) (Or.inl ⟨by rfl,?_⟩) ?_ ?_
            rotate_left
            ·intro w'
             go_simp
             with_reducible rfl
            rotate_left
            ·simp only [Act.put,List.setIfInBounds_toArray,List.set_cons_zero,List.set_cons_succ,i64_w,i32_w]
             rfl
            refine done_ (done_of HT_.out (by kernel_rfl)) ?_
            obtain ⟨Ao34,co34,eo34⟩:=Kd.R_slice HO_5.out
            subst eo34
            have hnb35:=NB237_236.out
            have hnc35:=NB236_237.out
            have hnb36:=NB237_243.out
            have hnc36:=NB243_237.out
            have hcz37_0:w30.cell? ⟨gb237,0,none⟩=some (.int .i64 x238000_1):=(blk_cell BK237.out 0).trans rfl
            have hcz37_1:w30.cell? ⟨gb237,1,none⟩=some (.int .i64 x238001_1):=(blk_cell BK237.out 1).trans rfl
            have hcz37_2:w30.cell? ⟨gb237,2,none⟩=some (.slice none 0 0):=(blk_cell BK237.out 2).trans rfl
            have hfz37_0:=blk_frozen BK237.out 0
            have hfz37_1:=blk_frozen BK237.out 1
            have hfz37_2:=blk_frozen BK237.out 2
            try go_wp2
            refine bodyPost_ret (results_cell_row rfl _ _ gb237 39 #[.int .i64 3,.int .i64 (wrap64 (x7_1+1)),.slice none 0 0] (0,0) _ rfl (by (with_reducible repeat (first|refine blk_drewN ?_ _|refine blk_drew ?_|refine blk_alloc ?_ _));refine blk_put (cs:=#[.int .i64 3,.int .i64 (wrap64 (x7_1+1)),.slice none 0 0]) ?_ 2 _ rfl;(with_reducible repeat (first|refine blk_drewN ?_ _|refine blk_drew ?_|refine blk_alloc ?_ _));refine blk_put (cs:=#[.int .i64 3,.int .i64 x238001_1,.slice none 0 0]) ?_ 1 _ rfl;(with_reducible repeat (first|refine blk_drewN ?_ _|refine blk_drew ?_|refine blk_alloc ?_ _));refine blk_put (cs:=#[.int .i64 x238000_1,.int .i64 x238001_1,.slice none 0 0]) ?_ 0 _ rfl;(with_reducible repeat (first|refine blk_drewN ?_ _|refine blk_drew ?_|refine blk_alloc ?_ _));refine blk_far ?_ NB237_243.out _;(with_reducible repeat (first|refine blk_drewN ?_ _|refine blk_drew ?_|refine blk_alloc ?_ _));refine blk_far ?_ NB237_243.out _;(with_reducible repeat (first|refine blk_drewN ?_ _|refine blk_drew ?_|refine blk_alloc ?_ _));refine blk_far ?_ NB237_243.out _;(with_reducible repeat (first|refine blk_drewN ?_ _|refine blk_drew ?_|refine blk_alloc ?_ _));exact BK237.out) Tryd.underlying39 rfl (by kernel_rfl)) rfl ?_
            exact ⟨_,by first|rfl|(simp [errW_none,errW_some] <;> rfl)|(simp [*,errW_none,errW_some] <;> rfl),by first|exact Kd.R_nil _ _ _ _ _|exact Kd.N_nil _ _ _ _ _|exact Kd.V_nil _ _ _ _ _|exact Kd.Q_nil _ _ _ _ _|exact Kd.S_nil _ _ _ _ _,by repeat (first|(with_reducible first|exact HB.out|apply below_alloc|apply pw_below_drewN|apply below_drew1|refine below_set ?_ GE236.out|refine below_set ?_ GE237.out|refine below_set ?_ GE243.out)|exact HB.out)⟩
           rw [if_neg c26] at H
           have c26b0:((x5_1.length:Int)==2000)=false:=beq_eq_false_iff_ne.mpr c26
           have c26b1:((x5_1.length:Int) != 2000)=true:=bne_iff_ne.mpr c26
           by_cases c38:x5_1.length<5864062014805
           ·rw [if_pos c38] at H
            have LMc38:=Aside0.mk c38
            clear c38
            obtain ⟨y244,hy244⟩:∃ y_:List (S52),y_=(x5_1 ++ [(⟨t239,t240,t241⟩:S52)]):=⟨_,rfl⟩
            replace H:(spec_ReadEvents.l0 k1 a1 y244 (wrap64 (x8_1+1)) (wrap64 (x7_1+1)) (wrap64 (x8_1+1)) a0_0 l0_1)=some (r1,r2,r3):=by first|(rw [hy244];with_reducible exact H)|(have H2_:=(Option.bind_some _ _).symm.trans H;rw [hy244];with_reducible exact H2_)|(have H2_:=(Option.bind_some _ _).symm.trans H;with_reducible exact H2_)|with_reducible exact H|(rw [hy244];exact H)|exact H
            have Ny244:=Aside0.mk hy244
            clear hy244
            have H':=Aside0.mk H
            clear H
            have p19:0≤(x8_1:Int):=of_decide_eq_true (by first|(with_reducible assumption)|assumption)
            have q19:x8_1<(a1.size:Int):=of_decide_eq_true (by first|(with_reducible assumption)|assumption)
            have hx19:=bt_at a1 x8_1
            replace p19:=eq_true p19
            replace q19:=eq_true q19
            try go_wp2
            have n0_:=Aside0.mk (Kd.R_drew HO_5.out)
            have n1_:=Aside0.mk (blk_drew BK236.out)
            have n2_:=Aside0.mk (blk_drew BK237.out)
            have n3_:=Aside0.mk (below_drew1 HB.out)
            clear HO_5
            clear BK236
            clear BK237
            clear HB
            have HO_5:=n0_
            have BK236:=n1_
            have BK237:=n2_
            have HB:=n3_
            clear n0_ n1_ n2_ n3_
            refine start_ (n:=12) (S:=fun w'=>w'.cell? ⟨gb236,0,none⟩=some (.int .i64 a0_0)∧w'.cell? ⟨gb236,1,none⟩=some (.slice A0_1 l0_1.length c0_1)) (ds:=[]) #[false,false,false,false,false,false,false,false,false,false,false,false] (by kernel_rfl) rfl rfl ⟨(blk_cell BK236.out 0).trans rfl,(blk_cell BK236.out 1).trans rfl⟩ (fun hHeld=>?_);refine with_tabW spec_ReadEvents.tab13 spec_ReadEvents.bits13 (fun HT_ HW_=>?_)
            generalize wr.drew=w39 at HO_5 BK236 BK237 HB hHeld ⊢
            refine pure_ (i:=1) (N:=some 33) (v:=?_) (a':=?_) #[false,true,false,false,false,false,false,false,false,false,false,false] rfl rfl (any_of HT_.out (by kernel_rfl)) (fun _ _ _ h=>h) (Or.inl ⟨by rfl,?_⟩) ?_ ?_
            rotate_left
            ·intro w'
             go_simp
             with_reducible rfl
            rotate_left
            ·simp only [Act.put,List.setIfInBounds_toArray,List.set_cons_zero,List.set_cons_succ,i64_w,i32_w]
             rfl
            refine pure_ (i:=2) (N:=some 34) (v:=?_) (a':=?_) #[false,true,true,false,false,false,false,false,false,false,false,false] rfl rfl (any_of HT_.out (by kernel_rfl)) (fun _ _ _ h=>h) (Or.inl ⟨by rfl,?_⟩) ?_ ?_
            rotate_left
            ·intro w'
             go_simp
             with_reducible rfl
            rotate_left
            ·simp only [Act.put,List.setIfInBounds_toArray,List.set_cons_zero,List.set_cons_succ,i64_w,i32_w]
             rfl
            refine pure_ (i:=3) (N:=some 35) (v:=?_) (a':=?_) #[false,true,true,true,false,false,false,false,false,false,false,false] rfl rfl (any_of HT_.out (by kernel_rfl)) (fun _ _ _ h=>h) (Or.inl ⟨by rfl,?_⟩) ?_ ?_
            rotate_left
            ·intro w'
             go_simp
             with_reducible rfl
            rotate_left
            ·simp only [Act.put,List.setIfInBounds_toArray,List.set_cons_zero,List.set_cons_succ,i64_w,i32_w]
             rfl
            refine pure_ (i:=4) (N:=some 36) (v:=?_) (a':=?_) #[false,true,true,true,true,false,false,false,false,false,false,false] rfl rfl (any_of HT_.out (by kernel_rfl)) (fun _ _ _ h=>h) (Or.inl ⟨by rfl,?_⟩) ?_ ?_
            rotate_left
            ·intro w'
             go_simp
             with_reducible rfl
            rotate_left
            ·simp only [Act.put,List.setIfInBounds_toArray,List.set_cons_zero,List.set_cons_succ,i64_w,i32_w]
             rfl
            refine take_ (i:=0) (N:=some 32) (v:=?_) (a':=?_) #[true,true,true,true,true,false,false,false,false,false,false,false] rfl rfl (take_ofW HT_.out HW_.out (by kernel_rfl)) (fun _ _ _ h=>h) (Or.inl ⟨by rfl,?_⟩) hHeld ?_ ?_
            rotate_left
            ·rintro w' ⟨s0,s1⟩
             go_simp
             with_reducible rfl
            rotate_left
            ·simp only [Act.put,List.setIfInBounds_toArray,List.set_cons_zero,List.set_cons_succ,i64_w,i32_w]
             rfl
            refine join_ (σ:=Nat) 2 #[true,true,true,true,true,true,true,true,true,true,false,false] (fun s_=>[(37,.tuple #[.agg #[.int .i64 t239,.int .i64 t240,.int .i64 t241],.bool true]),(9,.pointer (some ⟨s_,0,none⟩)),(31,.tuple #[.agg #[.int .i64 t239,.int .i64 t240,.int .i64 t241],.bool true]),(38,.agg #[.int .i64 t239,.int .i64 t240,.int .i64 t241]),(39,.bool true)]) (fun s_ w'=>(w'.cell? ⟨gb236,0,none⟩=some (.int .i64 a0_0)∧w'.cell? ⟨gb236,1,none⟩=some (.slice A0_1 l0_1.length c0_1))∧(Kd.R k52 52 w' w.heap.size (fun k_=>k_ ≠ s_) u5 x5_1)∧(w'.heap[gb236]?=some (.cells #[.int .i64 a0_0,.slice A0_1 l0_1.length c0_1] 31 (0,0)))∧(w'.heap[gb237]?=some (.cells #[.int .i64 x238000_1,.int .i64 x238001_1,.slice none 0 0] 39 (0,0)))∧(w'.heap[s_]?=some (.cells #[.int .i64 0,.int .i64 0,.int .i64 0] 52 (0,0)))∧(w.heap.size≤s_)∧(w.heap.size≤s_)∧(gb236 ≠ s_)∧(s_ ≠ gb236)∧(gb237 ≠ s_)∧(s_ ≠ gb237)∧(Below w.heap.size w w')) ?_ ?_
            rotate_left
            ·intro hCont
             refine two_ (i:=5) (j:=9) (Ni:=some 37) (Nj:=some 9) #[true,true,true,true,true,true,false,false,false,false,false,false] #[true,true,true,true,true,false,false,false,false,true,false,false] rfl rfl rfl rfl (two_of HT_.out (by kernel_rfl)) (by decide) (by decide) (fun K hK=>?_) (fun K hK=>?_)
             ·skip
              refine goes_ Tryd.func39 (by kernel_rfl) rfl #[.agg #[.int .i64 a0_0,.slice A0_1 l0_1.length c0_1],.string (a1.extract (x6_1:Int).toNat (x8_1:Int).toNat)] (by rfl) rfl rfl (by (try simp only [List.map_toArray,List.map_cons,List.map_nil]);first|done|rfl|(simp only [List.length_drop,List.length_take];rfl)) ?_
              with_reducible refine (spec_l4event.calls k1 a0_0 _ _ l0_1 (a1.extract (x6_1:Int).toNat (x8_1:Int).toNat) t239 t240 t241 true _ ?side1 ?side2 A24.out).mono ?_
              (case side1=>repeat (first|exact (Kd.C_below HR0_1.out HB.out)|(with_reducible refine Kd.C_alloc ?_ _)|(with_reducible refine Kd.C_drewN ?_ _)|(with_reducible refine Kd.C_drew ?_)))
              (case side2=>exact HC0_1.out)
              rintro e w40 ⟨rfl,hb⟩
              refine ⟨_,rfl,?_⟩
              have n0_:=Aside0.mk (Kd.R_below (by (with_reducible repeat (first|apply Kd.R_alloc|apply Kd.R_drewN|apply Kd.R_drew));exact HO_5.out) hb)
              have n1_:=Aside0.mk (blk_below (g:=gb236) (o:=.cells #[.int .i64 a0_0,.slice A0_1 l0_1.length c0_1] 31 (0,0)) (by (with_reducible repeat (first|refine blk_drewN ?_ _|refine blk_drew ?_|refine blk_alloc ?_ _));exact BK236.out) hb)
              have n2_:=Aside0.mk (blk_below (g:=gb237) (o:=.cells #[.int .i64 x238000_1,.int .i64 x238001_1,.slice none 0 0] 39 (0,0)) (by (with_reducible repeat (first|refine blk_drewN ?_ _|refine blk_drew ?_|refine blk_alloc ?_ _));exact BK237.out) hb)
              have n3_:=Aside0.mk (below_step (by repeat (first|(with_reducible first|exact HB.out|apply below_alloc|apply pw_below_drewN|apply below_drew1|refine below_set ?_ GE236.out|refine below_set ?_ GE237.out)|exact HB.out)) hb)
              clear HO_5
              clear BK236
              clear BK237
              clear HB
              have HO_5:=n0_
              have BK236:=n1_
              have BK237:=n2_
              have HB:=n3_
              clear n0_ n1_ n2_ n3_
              (try clear hb)
              (try clear hb2)
              (try clear hk)
              (try clear hi)
              refine hK.out _ _ ⟨(blk_cell BK236.out 0).trans rfl,(blk_cell BK236.out 1).trans rfl⟩ (fun hHeld=>?_)
              clear hK K
              refine norm_ (a':=?_) ?_ ?_
              rotate_left
              ·show Act.put _ (some 37) _=_
               simp only [Act.put,List.setIfInBounds_toArray,List.set_cons_zero,List.set_cons_succ,i64_w,i32_w]
               rfl
              refine pure_ (i:=6) (N:=some 31) (v:=?_) (a':=?_) #[true,true,true,true,true,true,true,false,false,false,false,false] rfl rfl (any_of HT_.out (by kernel_rfl)) (fun _ _ _ h=>h) (Or.inl ⟨by rfl,?_⟩) ?_ ?_
              rotate_left
              ·intro w'
               go_simp
               with_reducible rfl
              rotate_left
              ·simp only [Act.put,List.setIfInBounds_toArray,List.set_cons_zero,List.set_cons_succ,i64_w,i32_w]
               rfl
              refine pure_ (i:=7) (N:=some 38) (v:=?_) (a':=?_) #[true,true,true,true,true,true,true,true,false,false,false,false] rfl rfl (any_of HT_.out (by kernel_rfl)) (fun _ _ _ h=>h) (Or.inl ⟨by rfl,?_⟩) ?_ ?_
              rotate_left
              ·intro w'
               go_simp
               with_reducible rfl
              rotate_left
              ·simp only [Act.put,List.setIfInBounds_toArray,List.set_cons_zero,List.set_cons_succ,i64_w,i32_w]
               rfl
              refine pure_ (i:=8) (N:=some 39) (v:=?_) (a':=?_) #[true,true,true,true,true,true,true,true,true,false,false,false] rfl rfl (any_of HT_.out (by kernel_rfl)) (fun _ _ _ h=>h) (Or.inl ⟨by rfl,?_⟩) ?_ ?_
              rotate_left
              ·intro w'
               go_simp
               with_reducible rfl
              rotate_left
              ·simp only [Act.put,List.setIfInBounds_toArray,List.set_cons_zero,List.set_cons_succ,i64_w,i32_w]
               rfl
              refine one_ (i:=9) (N:=some 9) #[true,true,true,true,true,true,true,true,true,true,false,false] rfl rfl (one_of HT_.out (by kernel_rfl)) (by decide) (fun K hK=>?_)
              refine box_step ?hg (N:=9) ?hd (cs:=#[.int .i64 0,.int .i64 0,.int .i64 0]) (t:=52) ?hr ?_;(case hd=>rfl);(case hg=>rfl);(case hr=>first|(go_simp;done)|(go_simp;rfl))
              intro gb243 hg w41 hbox hb
              have n0_:=Aside0.mk (Kd.R_below (Kd.R_elderB (by (with_reducible repeat (first|apply Kd.R_alloc|apply Kd.R_drewN|apply Kd.R_drew));exact HO_5.out) gb243 (Nat.le_of_eq hg.symm)) hb)
              have n1_:=Aside0.mk (blk_below (g:=gb236) (o:=.cells #[.int .i64 a0_0,.slice A0_1 l0_1.length c0_1] 31 (0,0)) (by (with_reducible repeat (first|refine blk_drewN ?_ _|refine blk_drew ?_|refine blk_alloc ?_ _));exact BK236.out) hb)
              have n2_:=Aside0.mk (blk_below (g:=gb237) (o:=.cells #[.int .i64 x238000_1,.int .i64 x238001_1,.slice none 0 0] 39 (0,0)) (by (with_reducible repeat (first|refine blk_drewN ?_ _|refine blk_drew ?_|refine blk_alloc ?_ _));exact BK237.out) hb)
              have n3_:=Aside0.mk (below_step (by repeat (first|(with_reducible first|exact HB.out|apply below_alloc|apply pw_below_drewN|apply below_drew1|refine below_set ?_ GE236.out|refine below_set ?_ GE237.out)|exact HB.out)) hb)
              have n4_:=Aside0.mk (hbox)
              have n5_:=Aside0.mk ((by rw [hg];exact (below_size (by repeat (first|(with_reducible first|exact HB.out|apply below_alloc|apply pw_below_drewN|apply below_drew1|refine below_set ?_ GE236.out|refine below_set ?_ GE237.out)|exact HB.out))):w.heap.size≤gb243))
              have n6_:=Aside0.mk ((by rw [hg];exact (below_size (by repeat (first|(with_reducible first|exact HB.out|apply below_alloc|apply pw_below_drewN|apply below_drew1|refine below_set ?_ GE236.out|refine below_set ?_ GE237.out)|exact HB.out))):w.heap.size≤gb243))
              have n7_:=Aside0.mk ((by rw [hg];exact Nat.ne_of_lt (blk_lt (g:=gb236) (o:=.cells #[.int .i64 a0_0,.slice A0_1 l0_1.length c0_1] 31 (0,0)) (by (with_reducible repeat (first|refine blk_drewN ?_ _|refine blk_drew ?_|refine blk_alloc ?_ _));exact BK236.out)):gb236 ≠ gb243))
              have n8_:=Aside0.mk ((by rw [hg];exact Nat.ne_of_gt (blk_lt (g:=gb236) (o:=.cells #[.int .i64 a0_0,.slice A0_1 l0_1.length c0_1] 31 (0,0)) (by (with_reducible repeat (first|refine blk_drewN ?_ _|refine blk_drew ?_|refine blk_alloc ?_ _));exact BK236.out)):gb243 ≠ gb236))
              have n9_:=Aside0.mk ((by rw [hg];exact Nat.ne_of_lt (blk_lt (g:=gb237) (o:=.cells #[.int .i64 x238000_1,.int .i64 x238001_1,.slice none 0 0] 39 (0,0)) (by (with_reducible repeat (first|refine blk_drewN ?_ _|refine blk_drew ?_|refine blk_alloc ?_ _));exact BK237.out)):gb237 ≠ gb243))
              have n10_:=Aside0.mk ((by rw [hg];exact Nat.ne_of_gt (blk_lt (g:=gb237) (o:=.cells #[.int .i64 x238000_1,.int .i64 x238001_1,.slice none 0 0] 39 (0,0)) (by (with_reducible repeat (first|refine blk_drewN ?_ _|refine blk_drew ?_|refine blk_alloc ?_ _));exact BK237.out)):gb243 ≠ gb237))
              clear HO_5
              clear BK236
              clear BK237
              clear HB
              have HO_5:=n0_
              have BK236:=n1_
              have BK237:=n2_
              have HB:=n3_
              have BK243:=n4_
              have GW243:=n5_
              have GE243:=n6_
              have NB236_243:=n7_
              have NB243_236:=n8_
              have NB237_243:=n9_
              have NB243_237:=n10_
              clear n0_ n1_ n2_ n3_ n4_ n5_ n6_ n7_ n8_ n9_ n10_
              clear hb hbox hg
              refine hK.out _ _ ⟨(blk_cell BK236.out 0).trans rfl,(blk_cell BK236.out 1).trans rfl⟩ (fun hHeld=>?_)
              clear hK K
              refine norm_ (a':=?_) ?_ ?_
              rotate_left
              ·show Act.put _ (some 9) _=_
               simp only [Act.put,List.setIfInBounds_toArray,List.set_cons_zero,List.set_cons_succ,i64_w,i32_w]
               rfl
              exact norm_ (by simp only [putAll,Act.put,List.setIfInBounds_toArray,List.set_cons_zero,List.set_cons_succ]) (hCont (gb243) _ ⟨hHeld,(by (with_reducible repeat (first|apply Kd.R_alloc|apply Kd.R_drewN|apply Kd.R_drew));exact Kd.R_mono HO_5.out (fun _ hk=>hk.2)),(by (with_reducible repeat (first|refine blk_drewN ?_ _|refine blk_drew ?_|refine blk_alloc ?_ _));exact BK236.out),(by (with_reducible repeat (first|refine blk_drewN ?_ _|refine blk_drew ?_|refine blk_alloc ?_ _));exact BK237.out),(by (with_reducible repeat (first|refine blk_drewN ?_ _|refine blk_drew ?_|refine blk_alloc ?_ _));exact BK243.out),GW243.out,GE243.out,NB236_243.out,NB243_236.out,NB237_243.out,NB243_237.out,(by repeat (first|(with_reducible first|exact HB.out|apply below_alloc|apply pw_below_drewN|apply below_drew1|refine below_set ?_ GE236.out|refine below_set ?_ GE237.out|refine below_set ?_ GE243.out)|exact HB.out))⟩)
             skip
             refine box_step ?hg (N:=9) ?hd (cs:=#[.int .i64 0,.int .i64 0,.int .i64 0]) (t:=52) ?hr ?_;(case hd=>rfl);(case hg=>rfl);(case hr=>first|(go_simp;done)|(go_simp;rfl))
             intro gb243 hg w40 hbox hb
             have n0_:=Aside0.mk (Kd.R_below (Kd.R_elderB (by (with_reducible repeat (first|apply Kd.R_alloc|apply Kd.R_drewN|apply Kd.R_drew));exact HO_5.out) gb243 (Nat.le_of_eq hg.symm)) hb)
             have n1_:=Aside0.mk (blk_below (g:=gb236) (o:=.cells #[.int .i64 a0_0,.slice A0_1 l0_1.length c0_1] 31 (0,0)) (by (with_reducible repeat (first|refine blk_drewN ?_ _|refine blk_drew ?_|refine blk_alloc ?_ _));exact BK236.out) hb)
             have n2_:=Aside0.mk (blk_below (g:=gb237) (o:=.cells #[.int .i64 x238000_1,.int .i64 x238001_1,.slice none 0 0] 39 (0,0)) (by (with_reducible repeat (first|refine blk_drewN ?_ _|refine blk_drew ?_|refine blk_alloc ?_ _));exact BK237.out) hb)
             have n3_:=Aside0.mk (below_step (by repeat (first|(with_reducible first|exact HB.out|apply below_alloc|apply pw_below_drewN|apply below_drew1|refine below_set ?_ GE236.out|refine below_set ?_ GE237.out)|exact HB.out)) hb)
             have n4_:=Aside0.mk (hbox)
             have n5_:=Aside0.mk ((by rw [hg];exact (below_size (by repeat (first|(with_reducible first|exact HB.out|apply below_alloc|apply pw_below_drewN|apply below_drew1|refine below_set ?_ GE236.out|refine below_set ?_ GE237.out)|exact HB.out))):w.heap.size≤gb243))
             have n6_:=Aside0.mk ((by rw [hg];exact (below_size (by repeat (first|(with_reducible first|exact HB.out|apply below_alloc|apply pw_below_drewN|apply below_drew1|refine below_set ?_ GE236.out|refine below_set ?_ GE237.out)|exact HB.out))):w.heap.size≤gb243))
             have n7_:=Aside0.mk ((by rw [hg];exact Nat.ne_of_lt (blk_lt (g:=gb236) (o:=.cells #[.int .i64 a0_0,.slice A0_1 l0_1.length c0_1] 31 (0,0)) (by (with_reducible repeat (first|refine blk_drewN ?_ _|refine blk_drew ?_|refine blk_alloc ?_ _));exact BK236.out)):gb236 ≠ gb243))
             have n8_:=Aside0.mk ((by rw [hg];exact Nat.ne_of_gt (blk_lt (g:=gb236) (o:=.cells #[.int .i64 a0_0,.slice A0_1 l0_1.length c0_1] 31 (0,0)) (by (with_reducible repeat (first|refine blk_drewN ?_ _|refine blk_drew ?_|refine blk_alloc ?_ _));exact BK236.out)):gb243 ≠ gb236))
             have n9_:=Aside0.mk ((by rw [hg];exact Nat.ne_of_lt (blk_lt (g:=gb237) (o:=.cells #[.int .i64 x238000_1,.int .i64 x238001_1,.slice none 0 0] 39 (0,0)) (by (with_reducible repeat (first|refine blk_drewN ?_ _|refine blk_drew ?_|refine blk_alloc ?_ _));exact BK237.out)):gb237 ≠ gb243))
             have n10_:=Aside0.mk ((by rw [hg];exact Nat.ne_of_gt (blk_lt (g:=gb237) (o:=.cells #[.int .i64 x238000_1,.int .i64 x238001_1,.slice none 0 0] 39 (0,0)) (by (with_reducible repeat (first|refine blk_drewN ?_ _|refine blk_drew ?_|refine blk_alloc ?_ _));exact BK237.out)):gb243 ≠ gb237))
             clear HO_5
             clear BK236
             clear BK237
             clear HB
             have HO_5:=n0_
             have BK236:=n1_
             have BK237:=n2_
             have HB:=n3_
             have BK243:=n4_
             have GW243:=n5_
             have GE243:=n6_
             have NB236_243:=n7_
             have NB243_236:=n8_
             have NB237_243:=n9_
             have NB243_237:=n10_
             clear n0_ n1_ n2_ n3_ n4_ n5_ n6_ n7_ n8_ n9_ n10_
             clear hb hbox hg
             refine hK.out _ _ ⟨(blk_cell BK236.out 0).trans rfl,(blk_cell BK236.out 1).trans rfl⟩ (fun hHeld=>?_)
             clear hK K
             refine norm_ (a':=?_) ?_ ?_
             rotate_left
             ·show Act.put _ (some 9) _=_
              simp only [Act.put,List.setIfInBounds_toArray,List.set_cons_zero,List.set_cons_succ,i64_w,i32_w]
              rfl
             refine one_ (i:=5) (N:=some 37) #[true,true,true,true,true,true,false,false,false,true,false,false] rfl rfl (one_of HT_.out (by kernel_rfl)) (by decide) (fun K hK=>?_)
             refine goes_ Tryd.func39 (by kernel_rfl) rfl #[.agg #[.int .i64 a0_0,.slice A0_1 l0_1.length c0_1],.string (a1.extract (x6_1:Int).toNat (x8_1:Int).toNat)] (by rfl) rfl rfl (by (try simp only [List.map_toArray,List.map_cons,List.map_nil]);first|done|rfl|(simp only [List.length_drop,List.length_take];rfl)) ?_
             with_reducible refine (spec_l4event.calls k1 a0_0 _ _ l0_1 (a1.extract (x6_1:Int).toNat (x8_1:Int).toNat) t239 t240 t241 true _ ?side1 ?side2 A24.out).mono ?_
             (case side1=>repeat (first|exact (Kd.C_below HR0_1.out HB.out)|(with_reducible refine Kd.C_alloc ?_ _)|(with_reducible refine Kd.C_drewN ?_ _)|(with_reducible refine Kd.C_drew ?_)))
             (case side2=>exact HC0_1.out)
             rintro e w41 ⟨rfl,hb⟩
             refine ⟨_,rfl,?_⟩
             have n0_:=Aside0.mk (Kd.R_below (by (with_reducible repeat (first|apply Kd.R_alloc|apply Kd.R_drewN|apply Kd.R_drew));exact HO_5.out) hb)
             have n1_:=Aside0.mk (blk_below (g:=gb236) (o:=.cells #[.int .i64 a0_0,.slice A0_1 l0_1.length c0_1] 31 (0,0)) (by (with_reducible repeat (first|refine blk_drewN ?_ _|refine blk_drew ?_|refine blk_alloc ?_ _));exact BK236.out) hb)
             have n2_:=Aside0.mk (blk_below (g:=gb237) (o:=.cells #[.int .i64 x238000_1,.int .i64 x238001_1,.slice none 0 0] 39 (0,0)) (by (with_reducible repeat (first|refine blk_drewN ?_ _|refine blk_drew ?_|refine blk_alloc ?_ _));exact BK237.out) hb)
             have n3_:=Aside0.mk (blk_below (g:=gb243) (o:=.cells #[.int .i64 0,.int .i64 0,.int .i64 0] 52 (0,0)) (by (with_reducible repeat (first|refine blk_drewN ?_ _|refine blk_drew ?_|refine blk_alloc ?_ _));exact BK243.out) hb)
             have n4_:=Aside0.mk (below_step (by repeat (first|(with_reducible first|exact HB.out|apply below_alloc|apply pw_below_drewN|apply below_drew1|refine below_set ?_ GE236.out|refine below_set ?_ GE237.out|refine below_set ?_ GE243.out)|exact HB.out)) hb)
             clear HO_5
             clear BK236
             clear BK237
             clear BK243
             clear HB
             have HO_5:=n0_
             have BK236:=n1_
             have BK237:=n2_
             have BK243:=n3_
             have HB:=n4_
             clear n0_ n1_ n2_ n3_ n4_
             (try clear hb)
             (try clear hb2)
             (try clear hk)
             (try clear hi)
             refine hK.out _ _ ⟨(blk_cell BK236.out 0).trans rfl,(blk_cell BK236.out 1).trans rfl⟩ (fun hHeld=>?_)
             clear hK K
             refine norm_ (a':=?_) ?_ ?_
             rotate_left
             ·show Act.put _ (some 37) _=_
              simp only [Act.put,List.setIfInBounds_toArray,List.set_cons_zero,List.set_cons_succ,i64_w,i32_w]
              rfl
             refine pure_ (i:=6) (N:=some 31) (v:=?_) (a':=?_) #[true,true,true,true,true,true,true,false,false,true,false,false] rfl rfl (any_of HT_.out (by kernel_rfl)) (fun _ _ _ h=>h) (Or.inl ⟨by rfl,?_⟩) ?_ ?_
             rotate_left
             ·intro w'
              go_simp
              with_reducible rfl
             rotate_left
             ·simp only [Act.put,List.setIfInBounds_toArray,List.set_cons_zero,List.set_cons_succ,i64_w,i32_w]
              rfl
             refine pure_ (i:=7) (N:=some 38) (v:=?_) (a':=?_) #[true,true,true,true,true,true,true,true,false,true,false,false] rfl rfl (any_of HT_.out (by kernel_rfl)) (fun _ _ _ h=>h) (Or.inl ⟨by rfl,?_⟩) ?_ ?_
             rotate_left
             ·intro w'
              go_simp
              with_reducible rfl
             rotate_left
             ·simp only [Act.put,List.setIfInBounds_toArray,List.set_cons_zero,List.set_cons_succ,i64_w,i32_w]
              rfl
             refine pure_ (i:=8) (N:=some 39) (v:=?_) (a':=?_) #[true,true,true,true,true,true,true,true,true,true,false,false] rfl rfl (any_of HT_.out (by kernel_rfl)) (fun _ _ _ h=>h) (Or.inl ⟨by rfl,?_⟩) ?_ ?_
             rotate_left
             ·intro w'
              go_simp
              with_reducible rfl
             rotate_left
             ·simp only [Act.put,List.setIfInBounds_toArray,List.set_cons_zero,List.set_cons_succ,i64_w,i32_w]
              rfl
             exact norm_ (by simp only [putAll,Act.put,List.setIfInBounds_toArray,List.set_cons_zero,List.set_cons_succ]) (hCont (gb243) _ ⟨hHeld,(by (with_reducible repeat (first|apply Kd.R_alloc|apply Kd.R_drewN|apply Kd.R_drew));exact Kd.R_mono HO_5.out (fun _ hk=>hk.2)),(by (with_reducible repeat (first|refine blk_drewN ?_ _|refine blk_drew ?_|refine blk_alloc ?_ _));exact BK236.out),(by (with_reducible repeat (first|refine blk_drewN ?_ _|refine blk_drew ?_|refine blk_alloc ?_ _));exact BK237.out),(by (with_reducible repeat (first|refine blk_drewN ?_ _|refine blk_drew ?_|refine blk_alloc ?_ _));exact BK243.out),GW243.out,GE243.out,NB236_243.out,NB243_236.out,NB237_243.out,NB243_237.out,(by repeat (first|(with_reducible first|exact HB.out|apply below_alloc|apply pw_below_drewN|apply below_drew1|refine below_set ?_ GE236.out|refine below_set ?_ GE237.out|refine below_set ?_ GE243.out)|exact HB.out))⟩)
            rintro gb243 w42 ⟨hS_,h0_,h1_,h2_,h3_,h4_,h5_,h6_,h7_,h8_,h9_,h10_⟩
            have n0_:Aside0 (Kd.R k52 52 w42 w.heap.size (fun k_=>k_ ≠ gb243) u5 x5_1):=⟨h0_⟩
            have n1_:Aside0 (w42.heap[gb236]?=some (.cells #[.int .i64 a0_0,.slice A0_1 l0_1.length c0_1] 31 (0,0))):=⟨h1_⟩
            have n2_:Aside0 (w42.heap[gb237]?=some (.cells #[.int .i64 x238000_1,.int .i64 x238001_1,.slice none 0 0] 39 (0,0))):=⟨h2_⟩
            have n3_:Aside0 (w42.heap[gb243]?=some (.cells #[.int .i64 0,.int .i64 0,.int .i64 0] 52 (0,0))):=⟨h3_⟩
            have n4_:Aside0 (w.heap.size≤gb243):=⟨h4_⟩
            have n5_:Aside0 (w.heap.size≤gb243):=⟨h5_⟩
            have n6_:Aside0 (gb236 ≠ gb243):=⟨h6_⟩
            have n7_:Aside0 (gb243 ≠ gb236):=⟨h7_⟩
            have n8_:Aside0 (gb237 ≠ gb243):=⟨h8_⟩
            have n9_:Aside0 (gb243 ≠ gb237):=⟨h9_⟩
            have n10_:Aside0 (Below w.heap.size w w42):=⟨h10_⟩
            clear HO_5
            clear BK236
            clear BK237
            clear HB
            clear h0_ h1_ h2_ h3_ h4_ h5_ h6_ h7_ h8_ h9_ h10_
            have HO_5:=n0_
            have BK236:=n1_
            have BK237:=n2_
            have BK243:=n3_
            have GW243:=n4_
            have GE243:=n5_
            have NB236_243:=n6_
            have NB243_236:=n7_
            have NB237_243:=n8_
            have NB243_237:=n9_
            have HB:=n10_
            clear n0_ n1_ n2_ n3_ n4_ n5_ n6_ n7_ n8_ n9_ n10_
            have hHeld:w42.cell? ⟨gb236,0,none⟩=some (.int .i64 a0_0)∧w42.cell? ⟨gb236,1,none⟩=some (.slice A0_1 l0_1.length c0_1):=hS_
            refine norm_ (a':=?_) ?_ ?_
            rotate_left
            ·simp only [putAll,Act.put,List.setIfInBounds_toArray,List.set_cons_zero,List.set_cons_succ]
             rfl
            refine one_ (i:=10) (N:=none) #[true,true,true,true,true,true,true,true,true,true,true,false] rfl rfl (one_of HT_.out (by kernel_rfl)) (by decide) (fun K hK=>?_)
            have hs43:w42.cell? ⟨gb243,0,none⟩=some (.int .i64 0):=(blk_cell BK243.out 0).trans rfl
            have hfs43:=blk_frozen BK243.out 0
            have hns43_0:=NB236_243.out
            have hns43_1:=NB237_243.out
            have hms43_0:=NB243_236.out
            have hms43_1:=NB243_237.out
            have hs44:w42.cell? ⟨gb243,1,none⟩=some (.int .i64 0):=(blk_cell BK243.out 1).trans rfl
            have hfs44:=blk_frozen BK243.out 1
            have hns44_0:=NB236_243.out
            have hns44_1:=NB237_243.out
            have hms44_0:=NB243_236.out
            have hms44_1:=NB243_237.out
            have hs45:w42.cell? ⟨gb243,2,none⟩=some (.int .i64 0):=(blk_cell BK243.out 2).trans rfl
            have hfs45:=blk_frozen BK243.out 2
            have hns45_0:=NB236_243.out
            have hns45_1:=NB237_243.out
            have hms45_0:=NB243_236.out
            have hms45_1:=NB243_237.out
            refine skip_ (w1:=?_) (by rfl) rfl ?_ ?_
            rotate_left
            ·go_simp
             rfl
            refine hK.out _ _ ⟨((cell_far (p:=⟨gb243,_,none⟩) NB236_243.out _).trans (((cell_far (p:=⟨gb243,_,none⟩) NB236_243.out _).trans (((cell_far (p:=⟨gb243,_,none⟩) NB236_243.out _).trans (hHeld.1)))))),((cell_far (p:=⟨gb243,_,none⟩) NB236_243.out _).trans (((cell_far (p:=⟨gb243,_,none⟩) NB236_243.out _).trans (((cell_far (p:=⟨gb243,_,none⟩) NB236_243.out _).trans (hHeld.2))))))⟩ (fun hHeld=>?_)
            clear hK K
            refine pure_ (i:=11) (N:=some 10) (v:=?_) (a':=?_) #[true,true,true,true,true,true,true,true,true,true,true,true] rfl rfl (any_of HT_.out (by kernel_rfl)) (fun _ _ _ h=>h) (Or.inl ⟨by rfl,?_⟩) ?_ ?_
            rotate_left
            ·intro w'
             go_simp
             with_reducible rfl
            rotate_left
            ·simp only [Act.put,List.setIfInBounds_toArray,List.set_cons_zero,List.set_cons_succ,i64_w,i32_w]
             rfl
            refine done_ (done_of HT_.out (by kernel_rfl)) ?_
            obtain ⟨Ao46,co46,eo46⟩:=Kd.R_slice HO_5.out
            subst eo46
            have hnb47:=NB243_236.out
            have hnc47:=NB236_243.out
            have hnb48:=NB243_237.out
            have hnc48:=NB237_243.out
            have hcz49_0:w42.cell? ⟨gb243,0,none⟩=some (.int .i64 0):=(blk_cell BK243.out 0).trans rfl
            have hcz49_1:w42.cell? ⟨gb243,1,none⟩=some (.int .i64 0):=(blk_cell BK243.out 1).trans rfl
            have hcz49_2:w42.cell? ⟨gb243,2,none⟩=some (.int .i64 0):=(blk_cell BK243.out 2).trans rfl
            have hfz49_0:=blk_frozen BK243.out 0
            have hfz49_1:=blk_frozen BK243.out 1
            have hfz49_2:=blk_frozen BK243.out 2
            try go_wp2_with (first|((with_reducible refine gate_builtin (b:=.append) (xs:=#[.tmp 49,.tmp 51]) rfl ?_);(try (refine gate_guard (by rfl) ?_;dsimp only));at_builtin;refine Kd.R_append k52 (w0:=w) w.heap.size rfl (.tmp 49) (.tmp 51) 33 52 (.agg #[(.int .i64 0),(.int .i64 0),(.int .i64 0)]) 24 rfl Tryd.underlying33 info52 rfl (by decide) (by omega) (.slice Ao46 x5_1.length co46) x5_1 (⟨t239,t240,t241⟩:S52) [.int .i64 t239,.int .i64 t240,.int .i64 t241] (fun k_=>k_ ≠ gb243) (fun _=>False) rfl (by first|(go_simp;done)|(go_simp;rfl)) ?aP (fun _ hk=>hk.elim) ?aF ?aO ?aB ?aS ?aL ?_;(case aP=>exact k52_mkM _ _ _ (⟨t239,t240,t241⟩:S52));(case aB=>exact (by repeat (first|(with_reducible first|exact HB.out|apply below_alloc|apply pw_below_drewN|apply below_drew1|refine below_set ?_ GE236.out|refine below_set ?_ GE237.out|refine below_set ?_ GE243.out)|exact HB.out)));(case aF=>exact (fun k_ hk=>Kd.freshB (g:=gb243) (o:=.cells #[.int .i64 t239,.int .i64 t240,.int .i64 t241] 52 (0,0)) (by (with_reducible repeat (first|refine blk_drewN ?_ _|refine blk_drew ?_|refine blk_alloc ?_ _));refine blk_put (cs:=#[.int .i64 t239,.int .i64 t240,.int .i64 0]) ?_ 2 _ rfl;(with_reducible repeat (first|refine blk_drewN ?_ _|refine blk_drew ?_|refine blk_alloc ?_ _));refine blk_put (cs:=#[.int .i64 t239,.int .i64 0,.int .i64 0]) ?_ 1 _ rfl;(with_reducible repeat (first|refine blk_drewN ?_ _|refine blk_drew ?_|refine blk_alloc ?_ _));refine blk_put (cs:=#[.int .i64 0,.int .i64 0,.int .i64 0]) ?_ 0 _ rfl;(with_reducible repeat (first|refine blk_drewN ?_ _|refine blk_drew ?_|refine blk_alloc ?_ _));exact BK243.out) k_ hk));(case aO=>exact (by (with_reducible repeat (first|apply Kd.R_alloc|apply Kd.R_drewN|apply Kd.R_drew));exact Kd.R_mono (Kd.R_far (p:=⟨gb243,2,none⟩) (Kd.R_far (p:=⟨gb243,1,none⟩) (Kd.R_far (p:=⟨gb243,0,none⟩) (Kd.R_mono HO_5.out (fun k_ hk=>(⟨hk,hk⟩:_∧k_ ≠ gb243))) (fun _ hk=>hk.2) (.int .i64 t239)) (fun _ hk=>hk.2) (.int .i64 t240)) (fun _ hk=>hk.2) (.int .i64 t241)) (fun _ hk=>hk.1)));(case aS=>exact (below_size (by repeat (first|(with_reducible first|exact HB.out|apply below_alloc|apply pw_below_drewN|apply below_drew1|refine below_set ?_ GE236.out|refine below_set ?_ GE237.out|refine below_set ?_ GE243.out)|exact HB.out))));(case aL=>have:=LMc38.out;omega);intro v245 w50 ho hb hg hat;rw [← Ny244.out] at ho;have n0_:=Aside0.mk (blk_grown (g:=gb236) (o:=.cells #[.int .i64 a0_0,.slice A0_1 l0_1.length c0_1] 31 (0,0)) (by (with_reducible repeat (first|refine blk_drewN ?_ _|refine blk_drew ?_|refine blk_alloc ?_ _));refine blk_far ?_ NB236_243.out _;(with_reducible repeat (first|refine blk_drewN ?_ _|refine blk_drew ?_|refine blk_alloc ?_ _));refine blk_far ?_ NB236_243.out _;(with_reducible repeat (first|refine blk_drewN ?_ _|refine blk_drew ?_|refine blk_alloc ?_ _));refine blk_far ?_ NB236_243.out _;(with_reducible repeat (first|refine blk_drewN ?_ _|refine blk_drew ?_|refine blk_alloc ?_ _));exact BK236.out) hg (Kd.R_ne HO_5.out BK236.out (by decide)));have n1_:=Aside0.mk (blk_grown (g:=gb237) (o:=.cells #[.int .i64 x238000_1,.int .i64 x238001_1,.slice none 0 0] 39 (0,0)) (by (with_reducible repeat (first|refine blk_drewN ?_ _|refine blk_drew ?_|refine blk_alloc ?_ _));refine blk_far ?_ NB237_243.out _;(with_reducible repeat (first|refine blk_drewN ?_ _|refine blk_drew ?_|refine blk_alloc ?_ _));refine blk_far ?_ NB237_243.out _;(with_reducible repeat (first|refine blk_drewN ?_ _|refine blk_drew ?_|refine blk_alloc ?_ _));refine blk_far ?_ NB237_243.out _;(with_reducible repeat (first|refine blk_drewN ?_ _|refine blk_drew ?_|refine blk_alloc ?_ _));exact BK237.out) hg (Kd.R_ne HO_5.out BK237.out (by decide)));have n2_:=Aside0.mk (blk_grown (g:=gb243) (o:=.cells #[.int .i64 t239,.int .i64 t240,.int .i64 t241] 52 (0,0)) (by (with_reducible repeat (first|refine blk_drewN ?_ _|refine blk_drew ?_|refine blk_alloc ?_ _));refine blk_put (cs:=#[.int .i64 t239,.int .i64 t240,.int .i64 0]) ?_ 2 _ rfl;(with_reducible repeat (first|refine blk_drewN ?_ _|refine blk_drew ?_|refine blk_alloc ?_ _));refine blk_put (cs:=#[.int .i64 t239,.int .i64 0,.int .i64 0]) ?_ 1 _ rfl;(with_reducible repeat (first|refine blk_drewN ?_ _|refine blk_drew ?_|refine blk_alloc ?_ _));refine blk_put (cs:=#[.int .i64 0,.int .i64 0,.int .i64 0]) ?_ 0 _ rfl;(with_reducible repeat (first|refine blk_drewN ?_ _|refine blk_drew ?_|refine blk_alloc ?_ _));exact BK243.out) hg (Kd.R_away HO_5.out (fun _ hk=>hk)));have n3_:=Aside0.mk (hb);have n4_:=Aside0.mk (ho);clear BK236;clear BK237;clear BK243;clear HB;clear HO_5;have BK236:=n0_;have BK237:=n1_;have BK243:=n2_;have HB:=n3_;have HO246:=n4_;clear n0_ n1_ n2_ n3_ n4_;clear ho hb hg hat))
            go_roundg k1
            case measure=>have:=HK1.out;omega
            case rel=>exact ⟨(y244),(wrap64 (x8_1+1)),(wrap64 (x7_1+1)),(wrap64 (x8_1+1)),(x238000_1),(x238001_1),(by first|rfl|(simp;done)|(simp [*];done)),(by first|rfl|(simp;done)|(simp [*];done)),(by first|rfl|(simp;done)|(simp [*];done)),H',⟨by have:=HK1.out;omega⟩,⟨by (with_reducible repeat (first|apply Kd.R_alloc|apply Kd.R_drewN|apply Kd.R_drew));exact Kd.R_mono HO246.out (fun _ hk=>trivial)⟩,⟨by (with_reducible repeat (first|refine blk_drewN ?_ _|refine blk_drew ?_|refine blk_alloc ?_ _));exact BK236.out⟩,⟨by (with_reducible repeat (first|refine blk_drewN ?_ _|refine blk_drew ?_|refine blk_alloc ?_ _));exact BK237.out⟩,⟨by repeat (first|(with_reducible first|exact HB.out|apply below_alloc|apply pw_below_drewN|apply below_drew1|refine below_set ?_ GE236.out|refine below_set ?_ GE237.out|refine below_set ?_ GE243.out)|exact HB.out)⟩⟩
           rw [if_neg c38] at H
           exact absurd H (by simp)
          replace c25:=Bool.eq_false_iff.mpr c25
          subst c25
          have H1:(some (3,wrap64 (x7_1+1),([]:List (S52))))=some (r1,r2,r3):=by rw [if_neg (show ¬ (false=true) by decide)] at H;exact H
          clear H
          have H:=H1
          clear H1
          simp only [Option.some.injEq,Prod.mk.injEq] at H
          obtain ⟨rfl,rfl,rfl⟩:=H
          have p19:0≤(x8_1:Int):=of_decide_eq_true (by first|(with_reducible assumption)|assumption)
          have q19:x8_1<(a1.size:Int):=of_decide_eq_true (by first|(with_reducible assumption)|assumption)
          have hx19:=bt_at a1 x8_1
          replace p19:=eq_true p19
          replace q19:=eq_true q19
          try go_wp2
          have n0_:=Aside0.mk (Kd.R_drew HO_5.out)
          have n1_:=Aside0.mk (blk_drew BK236.out)
          have n2_:=Aside0.mk (blk_drew BK237.out)
          have n3_:=Aside0.mk (below_drew1 HB.out)
          clear HO_5
          clear BK236
          clear BK237
          clear HB
          have HO_5:=n0_
          have BK236:=n1_
          have BK237:=n2_
          have HB:=n3_
          clear n0_ n1_ n2_ n3_
          refine start_ (n:=12) (S:=fun w'=>w'.cell? ⟨gb236,0,none⟩=some (.int .i64 a0_0)∧w'.cell? ⟨gb236,1,none⟩=some (.slice A0_1 l0_1.length c0_1)) (ds:=[]) #[false,false,false,false,false,false,false,false,false,false,false,false] (by kernel_rfl) rfl rfl ⟨(blk_cell BK236.out 0).trans rfl,(blk_cell BK236.out 1).trans rfl⟩ (fun hHeld=>?_);refine with_tabW spec_ReadEvents.tab13 spec_ReadEvents.bits13 (fun HT_ HW_=>?_)
          generalize wr.drew=w51 at HO_5 BK236 BK237 HB hHeld ⊢
          refine pure_ (i:=1) (N:=some 33) (v:=?_) (a':=?_) #[false,true,false,false,false,false,false,false,false,false,false,false] rfl rfl (any_of HT_.out (by kernel_rfl)) (fun _ _ _ h=>h) (Or.inl ⟨by rfl,?_⟩) ?_ ?_
          rotate_left
          ·intro w'
           go_simp
           with_reducible rfl
          rotate_left
          ·simp only [Act.put,List.setIfInBounds_toArray,List.set_cons_zero,List.set_cons_succ,i64_w,i32_w]
           rfl
          refine pure_ (i:=2) (N:=some 34) (v:=?_) (a':=?_) #[false,true,true,false,false,false,false,false,false,false,false,false] rfl rfl (any_of HT_.out (by kernel_rfl)) (fun _ _ _ h=>h) (Or.inl ⟨by rfl,?_⟩) ?_ ?_
          rotate_left
          ·intro w'
           go_simp
           with_reducible rfl
          rotate_left
          ·simp only [Act.put,List.setIfInBounds_toArray,List.set_cons_zero,List.set_cons_succ,i64_w,i32_w]
           rfl
          refine pure_ (i:=3) (N:=some 35) (v:=?_) (a':=?_) #[false,true,true,true,false,false,false,false,false,false,false,false] rfl rfl (any_of HT_.out (by kernel_rfl)) (fun _ _ _ h=>h) (Or.inl ⟨by rfl,?_⟩) ?_ ?_
          rotate_left
          ·intro w'
           go_simp
           with_reducible rfl
          rotate_left
          ·simp only [Act.put,List.setIfInBounds_toArray,List.set_cons_zero,List.set_cons_succ,i64_w,i32_w]
           rfl
          refine pure_ (i:=4) (N:=some 36) (v:=?_) (a':=?_) #[false,true,true,true,true,false,false,false,false,false,false,false] rfl rfl (any_of HT_.out (by kernel_rfl)) (fun _ _ _ h=>h) (Or.inl ⟨by rfl,?_⟩) ?_ ?_
          rotate_left
          ·intro w'
           go_simp
           with_reducible rfl
          rotate_left
          ·simp only [Act.put,List.setIfInBounds_toArray,List.set_cons_zero,List.set_cons_succ,i64_w,i32_w]
           rfl
          refine take_ (i:=0) (N:=some 32) (v:=?_) (a':=?_) #[true,true,true,true,true,false,false,false,false,false,false,false] rfl rfl (take_ofW HT_.out HW_.out (by kernel_rfl)) (fun _ _ _ h=>h) (Or.inl ⟨by rfl,?_⟩) hHeld ?_ ?_
          rotate_left
          ·rintro w' ⟨s0,s1⟩
           go_simp
           with_reducible rfl
          rotate_left
          ·simp only [Act.put,List.setIfInBounds_toArray,List.set_cons_zero,List.set_cons_succ,i64_w,i32_w]
           rfl
          refine join_ (σ:=Nat) 2 #[true,true,true,true,true,true,true,true,true,true,false,false] (fun s_=>[(37,.tuple #[.agg #[.int .i64 t239,.int .i64 t240,.int .i64 t241],.bool false]),(9,.pointer (some ⟨s_,0,none⟩)),(31,.tuple #[.agg #[.int .i64 t239,.int .i64 t240,.int .i64 t241],.bool false]),(38,.agg #[.int .i64 t239,.int .i64 t240,.int .i64 t241]),(39,.bool false)]) (fun s_ w'=>(w'.cell? ⟨gb236,0,none⟩=some (.int .i64 a0_0)∧w'.cell? ⟨gb236,1,none⟩=some (.slice A0_1 l0_1.length c0_1))∧(Kd.R k52 52 w' w.heap.size (fun k_=>k_ ≠ s_) u5 x5_1)∧(w'.heap[gb236]?=some (.cells #[.int .i64 a0_0,.slice A0_1 l0_1.length c0_1] 31 (0,0)))∧(w'.heap[gb237]?=some (.cells #[.int .i64 x238000_1,.int .i64 x238001_1,.slice none 0 0] 39 (0,0)))∧(w'.heap[s_]?=some (.cells #[.int .i64 0,.int .i64 0,.int .i64 0] 52 (0,0)))∧(w.heap.size≤s_)∧(w.heap.size≤s_)∧(gb236 ≠ s_)∧(s_ ≠ gb236)∧(gb237 ≠ s_)∧(s_ ≠ gb237)∧(Below w.heap.size w w')) ?_ ?_
          rotate_left
          ·intro hCont
           refine two_ (i:=5) (j:=9) (Ni:=some 37) (Nj:=some 9) #[true,true,true,true,true,true,false,false,false,false,false,false] #[true,true,true,true,true,false,false,false,false,true,false,false] rfl rfl rfl rfl (two_of HT_.out (by kernel_rfl)) (by decide) (by decide) (fun K hK=>?_) (fun K hK=>?_)
           ·skip
            refine goes_ Tryd.func39 (by kernel_rfl) rfl #[.agg #[.int .i64 a0_0,.slice A0_1 l0_1.length c0_1],.string (a1.extract (x6_1:Int).toNat (x8_1:Int).toNat)] (by rfl) rfl rfl (by (try simp only [List.map_toArray,List.map_cons,List.map_nil]);first|done|rfl|(simp only [List.length_drop,List.length_take];rfl)) ?_
            with_reducible refine (spec_l4event.calls k1 a0_0 _ _ l0_1 (a1.extract (x6_1:Int).toNat (x8_1:Int).toNat) t239 t240 t241 false _ ?side1 ?side2 A24.out).mono ?_
            (case side1=>repeat (first|exact (Kd.C_below HR0_1.out HB.out)|(with_reducible refine Kd.C_alloc ?_ _)|(with_reducible refine Kd.C_drewN ?_ _)|(with_reducible refine Kd.C_drew ?_)))
            (case side2=>exact HC0_1.out)
            rintro e w52 ⟨rfl,hb⟩
            refine ⟨_,rfl,?_⟩
            have n0_:=Aside0.mk (Kd.R_below (by (with_reducible repeat (first|apply Kd.R_alloc|apply Kd.R_drewN|apply Kd.R_drew));exact HO_5.out) hb)
            have n1_:=Aside0.mk (blk_below (g:=gb236) (o:=.cells #[.int .i64 a0_0,.slice A0_1 l0_1.length c0_1] 31 (0,0)) (by (with_reducible repeat (first|refine blk_drewN ?_ _|refine blk_drew ?_|refine blk_alloc ?_ _));exact BK236.out) hb)
            have n2_:=Aside0.mk (blk_below (g:=gb237) (o:=.cells #[.int .i64 x238000_1,.int .i64 x238001_1,.slice none 0 0] 39 (0,0)) (by (with_reducible repeat (first|refine blk_drewN ?_ _|refine blk_drew ?_|refine blk_alloc ?_ _));exact BK237.out) hb)
            have n3_:=Aside0.mk (below_step (by repeat (first|(with_reducible first|exact HB.out|apply below_alloc|apply pw_below_drewN|apply below_drew1|refine below_set ?_ GE236.out|refine below_set ?_ GE237.out)|exact HB.out)) hb)
            clear HO_5
            clear BK236
            clear BK237
            clear HB
            have HO_5:=n0_
            have BK236:=n1_
            have BK237:=n2_
            have HB:=n3_
            clear n0_ n1_ n2_ n3_
            (try clear hb)
            (try clear hb2)
            (try clear hk)
            (try clear hi)
            refine hK.out _ _ ⟨(blk_cell BK236.out 0).trans rfl,(blk_cell BK236.out 1).trans rfl⟩ (fun hHeld=>?_)
            clear hK K
            refine norm_ (a':=?_) ?_ ?_
            rotate_left
            ·show Act.put _ (some 37) _=_
             simp only [Act.put,List.setIfInBounds_toArray,List.set_cons_zero,List.set_cons_succ,i64_w,i32_w]
             rfl
            refine pure_ (i:=6) (N:=some 31) (v:=?_) (a':=?_) #[true,true,true,true,true,true,true,false,false,false,false,false] rfl rfl (any_of HT_.out (by kernel_rfl)) (fun _ _ _ h=>h) (Or.inl ⟨by rfl,?_⟩) ?_ ?_
            rotate_left
            ·intro w'
             go_simp
             with_reducible rfl
            rotate_left
            ·simp only [Act.put,List.setIfInBounds_toArray,List.set_cons_zero,List.set_cons_succ,i64_w,i32_w]
             rfl
            refine pure_ (i:=7) (N:=some 38) (v:=?_) (a':=?_) #[true,true,true,true,true,true,true,true,false,false,false,false] rfl rfl (any_of HT_.out (by kernel_rfl)) (fun _ _ _ h=>h) (Or.inl ⟨by rfl,?_⟩) ?_ ?_
            rotate_left
            ·intro w'
             go_simp
             with_reducible rfl
            rotate_left
            ·simp only [Act.put,List.setIfInBounds_toArray,List.set_cons_zero,List.set_cons_succ,i64_w,i32_w]
             rfl
            refine pure_ (i:=8) (N:=some 39) (v:=?_) (a':=?_) #[true,true,true,true,true,true,true,true,true,false,false,false] rfl rfl (any_of HT_.out (by kernel_rfl)) (fun _ _ _ h=>h) (Or.inl ⟨by rfl,?_⟩) ?_ ?_
            rotate_left
            ·intro w'
             go_simp
             with_reducible rfl
            rotate_left
            ·simp only [Act.put,List.setIfInBounds_toArray,List.set_cons_zero,List.set_cons_succ,i64_w,i32_w]
             rfl
            refine one_ (i:=9) (N:=some 9) #[true,true,true,true,true,true,true,true,true,true,false,false] rfl rfl (one_of HT_.out (by kernel_rfl)) (by decide) (fun K hK=>?_)
            refine box_step ?hg (N:=9) ?hd (cs:=#[.int .i64 0,.int .i64 0,.int .i64 0]) (t:=52) ?hr ?_;(case hd=>rfl);(case hg=>rfl);(case hr=>first|(go_simp;done)|(go_simp;rfl))
            intro gb243 hg w53 hbox hb
            have n0_:=Aside0.mk (Kd.R_below (Kd.R_elderB (by (with_reducible repeat (first|apply Kd.R_alloc|apply Kd.R_drewN|apply Kd.R_drew));exact HO_5.out) gb243 (Nat.le_of_eq hg.symm)) hb)
            have n1_:=Aside0.mk (blk_below (g:=gb236) (o:=.cells #[.int .i64 a0_0,.slice A0_1 l0_1.length c0_1] 31 (0,0)) (by (with_reducible repeat (first|refine blk_drewN ?_ _|refine blk_drew ?_|refine blk_alloc ?_ _));exact BK236.out) hb)
            have n2_:=Aside0.mk (blk_below (g:=gb237) (o:=.cells #[.int .i64 x238000_1,.int .i64 x238001_1,.slice none 0 0] 39 (0,0)) (by (with_reducible repeat (first|refine blk_drewN ?_ _|refine blk_drew ?_|refine blk_alloc ?_ _));exact BK237.out) hb)
            have n3_:=Aside0.mk (below_step (by repeat (first|(with_reducible first|exact HB.out|apply below_alloc|apply pw_below_drewN|apply below_drew1|refine below_set ?_ GE236.out|refine below_set ?_ GE237.out)|exact HB.out)) hb)
            have n4_:=Aside0.mk (hbox)
            have n5_:=Aside0.mk ((by rw [hg];exact (below_size (by repeat (first|(with_reducible first|exact HB.out|apply below_alloc|apply pw_below_drewN|apply below_drew1|refine below_set ?_ GE236.out|refine below_set ?_ GE237.out)|exact HB.out))):w.heap.size≤gb243))
            have n6_:=Aside0.mk ((by rw [hg];exact (below_size (by repeat (first|(with_reducible first|exact HB.out|apply below_alloc|apply pw_below_drewN|apply below_drew1|refine below_set ?_ GE236.out|refine below_set ?_ GE237.out)|exact HB.out))):w.heap.size≤gb243))
            have n7_:=Aside0.mk ((by rw [hg];exact Nat.ne_of_lt (blk_lt (g:=gb236) (o:=.cells #[.int .i64 a0_0,.slice A0_1 l0_1.length c0_1] 31 (0,0)) (by (with_reducible repeat (first|refine blk_drewN ?_ _|refine blk_drew ?_|refine blk_alloc ?_ _));exact BK236.out)):gb236 ≠ gb243))
            have n8_:=Aside0.mk ((by rw [hg];exact Nat.ne_of_gt (blk_lt (g:=gb236) (o:=.cells #[.int .i64 a0_0,.slice A0_1 l0_1.length c0_1] 31 (0,0)) (by (with_reducible repeat (first|refine blk_drewN ?_ _|refine blk_drew ?_|refine blk_alloc ?_ _));exact BK236.out)):gb243 ≠ gb236))
            have n9_:=Aside0.mk ((by rw [hg];exact Nat.ne_of_lt (blk_lt (g:=gb237) (o:=.cells #[.int .i64 x238000_1,.int .i64 x238001_1,.slice none 0 0] 39 (0,0)) (by (with_reducible repeat (first|refine blk_drewN ?_ _|refine blk_drew ?_|refine blk_alloc ?_ _));exact BK237.out)):gb237 ≠ gb243))
            have n10_:=Aside0.mk ((by rw [hg];exact Nat.ne_of_gt (blk_lt (g:=gb237) (o:=.cells #[.int .i64 x238000_1,.int .i64 x238001_1,.slice none 0 0] 39 (0,0)) (by (with_reducible repeat (first|refine blk_drewN ?_ _|refine blk_drew ?_|refine blk_alloc ?_ _));exact BK237.out)):gb243 ≠ gb237))
            clear HO_5
            clear BK236
            clear BK237
            clear HB
            have HO_5:=n0_
            have BK236:=n1_
            have BK237:=n2_
            have HB:=n3_
            have BK243:=n4_
            have GW243:=n5_
            have GE243:=n6_
            have NB236_243:=n7_
            have NB243_236:=n8_
            have NB237_243:=n9_
            have NB243_237:=n10_
            clear n0_ n1_ n2_ n3_ n4_ n5_ n6_ n7_ n8_ n9_ n10_
            clear hb hbox hg
            refine hK.out _ _ ⟨(blk_cell BK236.out 0).trans rfl,(blk_cell BK236.out 1).trans rfl⟩ (fun hHeld=>?_)
            clear hK K
            refine norm_ (a':=?_) ?_ ?_
            rotate_left
            ·show Act.put _ (some 9) _=_
             simp only [Act.put,List.setIfInBounds_toArray,List.set_cons_zero,List.set_cons_succ,i64_w,i32_w]
             rfl
            exact norm_ (by simp only [putAll,Act.put,List.setIfInBounds_toArray,List.set_cons_zero,List.set_cons_succ]) (hCont (gb243) _ ⟨hHeld,(by (with_reducible repeat (first|apply Kd.R_alloc|apply Kd.R_drewN|apply Kd.R_drew));exact Kd.R_mono HO_5.out (fun _ hk=>hk.2)),(by (with_reducible repeat (first|refine blk_drewN ?_ _|refine blk_drew ?_|refine blk_alloc ?_ _));exact BK236.out),(by (with_reducible repeat (first|refine blk_drewN ?_ _|refine blk_drew ?_|refine blk_alloc ?_ _));exact BK237.out),(by (with_reducible repeat (first|refine blk_drewN ?_ _|refine blk_drew ?_|refine blk_alloc ?_ _));exact BK243.out),GW243.out,GE243.out,NB236_243.out,NB243_236.out,NB237_243.out,NB243_237.out,(by repeat (first|(with_reducible first|exact HB.out|apply below_alloc|apply pw_below_drewN|apply below_drew1|refine below_set ?_ GE236.out|refine below_set ?_ GE237.out|refine below_set ?_ GE243.out)|exact HB.out))⟩)
           skip
           refine box_step ?hg (N:=9) ?hd (cs:=#[.int .i64 0,.int .i64 0,.int .i64 0]) (t:=52) ?hr ?_;(case hd=>rfl);(case hg=>rfl);(case hr=>first|(go_simp;done)|(go_simp;rfl))
           intro gb243 hg w52 hbox hb
           have n0_:=Aside0.mk (Kd.R_below (Kd.R_elderB (by (with_reducible repeat (first|apply Kd.R_alloc|apply Kd.R_drewN|apply Kd.R_drew));exact HO_5.out) gb243 (Nat.le_of_eq hg.symm)) hb)
           have n1_:=Aside0.mk (blk_below (g:=gb236) (o:=.cells #[.int .i64 a0_0,.slice A0_1 l0_1.length c0_1] 31 (0,0)) (by (with_reducible repeat (first|refine blk_drewN ?_ _|refine blk_drew ?_|refine blk_alloc ?_ _));exact BK236.out) hb)
           have n2_:=Aside0.mk (blk_below (g:=gb237) (o:=.cells #[.int .i64 x238000_1,.int .i64 x238001_1,.slice none 0 0] 39 (0,0)) (by (with_reducible repeat (first|refine blk_drewN ?_ _|refine blk_drew ?_|refine blk_alloc ?_ _));exact BK237.out) hb)
           have n3_:=Aside0.mk (below_step (by repeat (first|(with_reducible first|exact HB.out|apply below_alloc|apply pw_below_drewN|apply below_drew1|refine below_set ?_ GE236.out|refine below_set ?_ GE237.out)|exact HB.out)) hb)
           have n4_:=Aside0.mk (hbox)
           have n5_:=Aside0.mk ((by rw [hg];exact (below_size (by repeat (first|(with_reducible first|exact HB.out|apply below_alloc|apply pw_below_drewN|apply below_drew1|refine below_set ?_ GE236.out|refine below_set ?_ GE237.out)|exact HB.out))):w.heap.size≤gb243))
           have n6_:=Aside0.mk ((by rw [hg];exact (below_size (by repeat (first|(with_reducible first|exact HB.out|apply below_alloc|apply pw_below_drewN|apply below_drew1|refine below_set ?_ GE236.out|refine below_set ?_ GE237.out)|exact HB.out))):w.heap.size≤gb243))
           have n7_:=Aside0.mk ((by rw [hg];exact Nat.ne_of_lt (blk_lt (g:=gb236) (o:=.cells #[.int .i64 a0_0,.slice A0_1 l0_1.length c0_1] 31 (0,0)) (by (with_reducible repeat (first|refine blk_drewN ?_ _|refine blk_drew ?_|refine blk_alloc ?_ _));exact BK236.out)):gb236 ≠ gb243))
           have n8_:=Aside0.mk ((by rw [hg];exact Nat.ne_of_gt (blk_lt (g:=gb236) (o:=.cells #[.int .i64 a0_0,.slice A0_1 l0_1.length c0_1] 31 (0,0)) (by (with_reducible repeat (first|refine blk_drewN ?_ _|refine blk_drew ?_|refine blk_alloc ?_ _));exact BK236.out)):gb243 ≠ gb236))
           have n9_:=Aside0.mk ((by rw [hg];exact Nat.ne_of_lt (blk_lt (g:=gb237) (o:=.cells #[.int .i64 x238000_1,.int .i64 x238001_1,.slice none 0 0] 39 (0,0)) (by (with_reducible repeat (first|refine blk_drewN ?_ _|refine blk_drew ?_|refine blk_alloc ?_ _));exact BK237.out)):gb237 ≠ gb243))
           have n10_:=Aside0.mk ((by rw [hg];exact Nat.ne_of_gt (blk_lt (g:=gb237) (o:=.cells #[.int .i64 x238000_1,.int .i64 x238001_1,.slice none 0 0] 39 (0,0)) (by (with_reducible repeat (first|refine blk_drewN ?_ _|refine blk_drew ?_|refine blk_alloc ?_ _));exact BK237.out)):gb243 ≠ gb237))
           clear HO_5
           clear BK236
           clear BK237
           clear HB
           have HO_5:=n0_
           have BK236:=n1_
           have BK237:=n2_
           have HB:=n3_
           have BK243:=n4_
           have GW243:=n5_
           have GE243:=n6_
           have NB236_243:=n7_
           have NB243_236:=n8_
           have NB237_243:=n9_
           have NB243_237:=n10_
           clear n0_ n1_ n2_ n3_ n4_ n5_ n6_ n7_ n8_ n9_ n10_
           clear hb hbox hg
           refine hK.out _ _ ⟨(blk_cell BK236.out 0).trans rfl,(blk_cell BK236.out 1).trans rfl⟩ (fun hHeld=>?_)
           clear hK K
           refine norm_ (a':=?_) ?_ ?_
           rotate_left
           ·show Act.put _ (some 9) _=_
            simp only [Act.put,List.setIfInBounds_toArray,List.set_cons_zero,List.set_cons_succ,i64_w,i32_w]
            rfl
           refine one_ (i:=5) (N:=some 37) #[true,true,true,true,true,true,false,false,false,true,false,false] rfl rfl (one_of HT_.out (by kernel_rfl)) (by decide) (fun K hK=>?_)
           refine goes_ Tryd.func39 (by kernel_rfl) rfl #[.agg #[.int .i64 a0_0,.slice A0_1 l0_1.length c0_1],.string (a1.extract (x6_1:Int).toNat (x8_1:Int).toNat)] (by rfl) rfl rfl (by (try simp only [List.map_toArray,List.map_cons,List.map_nil]);first|done|rfl|(simp only [List.length_drop,List.length_take];rfl)) ?_
           with_reducible refine (spec_l4event.calls k1 a0_0 _ _ l0_1 (a1.extract (x6_1:Int).toNat (x8_1:Int).toNat) t239 t240 t241 false _ ?side1 ?side2 A24.out).mono ?_
           (case side1=>repeat (first|exact (Kd.C_below HR0_1.out HB.out)|(with_reducible refine Kd.C_alloc ?_ _)|(with_reducible refine Kd.C_drewN ?_ _)|(with_reducible refine Kd.C_drew ?_)))
           (case side2=>exact HC0_1.out)
           rintro e w53 ⟨rfl,hb⟩
           refine ⟨_,rfl,?_⟩
           have n0_:=Aside0.mk (Kd.R_below (by (with_reducible repeat (first|apply Kd.R_alloc|apply Kd.R_drewN|apply Kd.R_drew));exact HO_5.out) hb)
           have n1_:=Aside0.mk (blk_below (g:=gb236) (o:=.cells #[.int .i64 a0_0,.slice A0_1 l0_1.length c0_1] 31 (0,0)) (by (with_reducible repeat (first|refine blk_drewN ?_ _|refine blk_drew ?_|refine blk_alloc ?_ _));exact BK236.out) hb)
           have n2_:=Aside0.mk (blk_below (g:=gb237) (o:=.cells #[.int .i64 x238000_1,.int .i64 x238001_1,.slice none 0 0] 39 (0,0)) (by (with_reducible repeat (first|refine blk_drewN ?_ _|refine blk_drew ?_|refine blk_alloc ?_ _));exact BK237.out) hb)
           have n3_:=Aside0.mk (blk_below (g:=gb243) (o:=.cells #[.int .i64 0,.int .i64 0,.int .i64 0] 52 (0,0)) (by (with_reducible repeat (first|refine blk_drewN ?_ _|refine blk_drew ?_|refine blk_alloc ?_ _));exact BK243.out) hb)
           have n4_:=Aside0.mk (below_step (by repeat (first|(with_reducible first|exact HB.out|apply below_alloc|apply pw_below_drewN|apply below_drew1|refine below_set ?_ GE236.out|refine below_set ?_ GE237.out|refine below_set ?_ GE243.out)|exact HB.out)) hb)
           clear HO_5
           clear BK236
           clear BK237
           clear BK243
           clear HB
           have HO_5:=n0_
           have BK236:=n1_
           have BK237:=n2_
           have BK243:=n3_
           have HB:=n4_
           clear n0_ n1_ n2_ n3_ n4_
           (try clear hb)
           (try clear hb2)
           (try clear hk)
           (try clear hi)
           refine hK.out _ _ ⟨(blk_cell BK236.out 0).trans rfl,(blk_cell BK236.out 1).trans rfl⟩ (fun hHeld=>?_)
           clear hK K
           refine norm_ (a':=?_) ?_ ?_
           rotate_left
           ·show Act.put _ (some 37) _=_
            simp only [Act.put,List.setIfInBounds_toArray,List.set_cons_zero,List.set_cons_succ,i64_w,i32_w]
            rfl
           refine pure_ (i:=6) (N:=some 31) (v:=?_) (a':=?_) #[true,true,true,true,true,true,true,false,false,true,false,false] rfl rfl (any_of HT_.out (by kernel_rfl)) (fun _ _ _ h=>h) (Or.inl ⟨by rfl,?_⟩) ?_ ?_
           rotate_left
           ·intro w'
            go_simp
            with_reducible rfl
           rotate_left
           ·simp only [Act.put,List.setIfInBounds_toArray,List.set_cons_zero,List.set_cons_succ,i64_w,i32_w]
            rfl
           refine pure_ (i:=7) (N:=some 38) (v:=?_) (a':=?_) #[true,true,true,true,true,true,true,true,false,true,false,false] rfl rfl (any_of HT_.out (by kernel_rfl)) (fun _ _ _ h=>h) (Or.inl ⟨by rfl,?_⟩) ?_ ?_
           rotate_left
           ·intro w'
            go_simp
            with_reducible rfl
           rotate_left
           ·simp only [Act.put,List.setIfInBounds_toArray,List.set_cons_zero,List.set_cons_succ,i64_w,i32_w]
            rfl
           refine pure_ (i:=8) (N:=some 39) (v:=?_) (a':=?_) #[true,true,true,true,true,true,true,true,true,true,false,false] rfl rfl (any_of HT_.out (by kernel_rfl)) (fun _ _ _ h=>h) (Or.inl ⟨by rfl,?_⟩) ?_ ?_
           rotate_left
           ·intro w'
            go_simp
            with_reducible rfl
           rotate_left
           ·simp only [Act.put,List.setIfInBounds_toArray,List.set_cons_zero,List.set_cons_succ,i64_w,i32_w]
            rfl
           exact norm_ (by simp only [putAll,Act.put,List.setIfInBounds_toArray,List.set_cons_zero,List.set_cons_succ]) (hCont (gb243) _ ⟨hHeld,(by (with_reducible repeat (first|apply Kd.R_alloc|apply Kd.R_drewN|apply Kd.R_drew));exact Kd.R_mono HO_5.out (fun _ hk=>hk.2)),(by (with_reducible repeat (first|refine blk_drewN ?_ _|refine blk_drew ?_|refine blk_alloc ?_ _));exact BK236.out),(by (with_reducible repeat (first|refine blk_drewN ?_ _|refine blk_drew ?_|refine blk_alloc ?_ _));exact BK237.out),(by (with_reducible repeat (first|refine blk_drewN ?_ _|refine blk_drew ?_|refine blk_alloc ?_ _));exact BK243.out),GW243.out,GE243.out,NB236_243.out,NB243_236.out,NB237_243.out,NB243_237.out,(by repeat (first|(with_reducible first|exact HB.out|apply below_alloc|apply pw_below_drewN|apply below_drew1|refine below_set ?_ GE236.out|refine below_set ?_ GE237.out|refine below_set ?_ GE243.out)|exact HB.out))⟩)
          rintro gb243 w54 ⟨hS_,h0_,h1_,h2_,h3_,h4_,h5_,h6_,h7_,h8_,h9_,h10_⟩
          have n0_:Aside0 (Kd.R k52 52 w54 w.heap.size (fun k_=>k_ ≠ gb243) u5 x5_1):=⟨h0_⟩
          have n1_:Aside0 (w54.heap[gb236]?=some (.cells #[.int .i64 a0_0,.slice A0_1 l0_1.length c0_1] 31 (0,0))):=⟨h1_⟩
          have n2_:Aside0 (w54.heap[gb237]?=some (.cells #[.int .i64 x238000_1,.int .i64 x238001_1,.slice none 0 0] 39 (0,0))):=⟨h2_⟩
          have n3_:Aside0 (w54.heap[gb243]?=some (.cells #[.int .i64 0,.int .i64 0,.int .i64 0] 52 (0,0))):=⟨h3_⟩
          have n4_:Aside0 (w.heap.size≤gb243):=⟨h4_⟩
          have n5_:Aside0 (w.heap.size≤gb243):=⟨h5_⟩
          have n6_:Aside0 (gb236 ≠ gb243):=⟨h6_⟩
          have n7_:Aside0 (gb243 ≠ gb236):=⟨h7_⟩
          have n8_:Aside0 (gb237 ≠ gb243):=⟨h8_⟩
          have n9_:Aside0 (gb243 ≠ gb237):=⟨h9_⟩
          have n10_:Aside0 (Below w.heap.size w w54):=⟨h10_⟩
          clear HO_5
          clear BK236
          clear BK237
          clear HB
          clear h0_ h1_ h2_ h3_ h4_ h5_ h6_ h7_ h8_ h9_ h10_
          have HO_5:=n0_
          have BK236:=n1_
          have BK237:=n2_
          have BK243:=n3_
          have GW243:=n4_
          have GE243:=n5_
          have NB236_243:=n6_
          have NB243_236:=n7_
          have NB237_243:=n8_
          have NB243_237:=n9_
          have HB:=n10_
          clear n0_ n1_ n2_ n3_ n4_ n5_ n6_ n7_ n8_ n9_ n10_
          have hHeld:w54.cell? ⟨gb236,0,none⟩=some (.int .i64 a0_0)∧w54.cell? ⟨gb236,1,none⟩=some (.slice A0_1 l0_1.length c0_1):=hS_
          refine norm_ (a':=?_) ?_ ?_
          rotate_left
          ·simp only [putAll,Act.put,List.setIfInBounds_toArray,List.set_cons_zero,List.set_cons_succ]
           rfl
          refine one_ (i:=10) (N:=none) #[true,true,true,true,true,true,true,true,true,true,true,false] rfl rfl (one_of HT_.out (by kernel_rfl)) (by decide) (fun K hK=>?_)
          have hs55:w54.cell? ⟨gb243,0,none⟩=some (.int .i64 0):=(blk_cell BK243.out 0).trans rfl
          have hfs55:=blk_frozen BK243.out 0
          have hns55_0:=NB236_243.out
          have hns55_1:=NB237_243.out
          have hms55_0:=NB243_236.out
          have hms55_1:=NB243_237.out
          have hs56:w54.cell? ⟨gb243,1,none⟩=some (.int .i64 0):=(blk_cell BK243.out 1).trans rfl
          have hfs56:=blk_frozen BK243.out 1
          have hns56_0:=NB236_243.out
          have hns56_1:=NB237_243.out
          have hms56_0:=NB243_236.out
          have hms56_1:=NB243_237.out
          have hs57:w54.cell? ⟨gb243,2,none⟩=some (.int .i64 0):=(blk_cell BK243.out 2).trans rfl
          have hfs57:=blk_frozen BK243.out 2
          have hns57_0:=NB236_243.out
          have hns57_1:=NB237_243.out
          have hms57_0:=NB243_236.out
          have hms57_1:=NB243_237.out
          refine skip_ (w1:=?_) (by rfl) rfl ?_ ?_
          rotate_left
          ·go_simp
           rfl
          refine hK.out _ _ ⟨((cell_far (p:=⟨gb243,_,none⟩) NB236_243.out _).trans (((cell_far (p:=⟨gb243,_,none⟩) NB236_243.out _).trans (((cell_far (p:=⟨gb243,_,none⟩) NB236_243.out _).trans (hHeld.1)))))),((cell_far (p:=⟨gb243,_,none⟩) NB236_243.out _).trans (((cell_far (p:=⟨gb243,_,none⟩) NB236_243.out _).trans (((cell_far (p:=⟨gb243,_,none⟩) NB236_243.out _).trans (hHeld.2))))))⟩ (fun hHeld=>?_)
          clear hK K
          refine pure_ (i:=11) (N:=some 10) (v:=?_) (a':=?_) #[true,true,true,true,true,true,true,true,true,true,true,true] rfl rfl (any_of HT_.out (by kernel_rfl)) (fun _ _ _ h=>h) (Or.inl ⟨by rfl,?_⟩) ?_ ?_
          rotate_left
          ·intro w'
           go_simp
           with_reducible rfl
          rotate_left
          ·simp only [Act.put,List.setIfInBounds_toArray,List.set_cons_zero,List.set_cons_succ,i64_w,i32_w]
           rfl
          refine done_ (done_of HT_.out (by kernel_rfl)) ?_
          have hnb58:=NB237_236.out
          have hnc58:=NB236_237.out
          have hnb59:=NB237_243.out
          have hnc59:=NB243_237.out
          have hcz60_0:w54.cell? ⟨gb237,0,none⟩=some (.int .i64 x238000_1):=(blk_cell BK237.out 0).trans rfl
          have hcz60_1:w54.cell? ⟨gb237,1,none⟩=some (.int .i64 x238001_1):=(blk_cell BK237.out 1).trans rfl
          have hcz60_2:w54.cell? ⟨gb237,2,none⟩=some (.slice none 0 0):=(blk_cell BK237.out 2).trans rfl
          have hfz60_0:=blk_frozen BK237.out 0
          have hfz60_1:=blk_frozen BK237.out 1
          have hfz60_2:=blk_frozen BK237.out 2
          try go_wp2
          refine bodyPost_ret (results_cell_row rfl _ _ gb237 39 #[.int .i64 3,.int .i64 (wrap64 (x7_1+1)),.slice none 0 0] (0,0) _ rfl (by (with_reducible repeat (first|refine blk_drewN ?_ _|refine blk_drew ?_|refine blk_alloc ?_ _));refine blk_put (cs:=#[.int .i64 3,.int .i64 (wrap64 (x7_1+1)),.slice none 0 0]) ?_ 2 _ rfl;(with_reducible repeat (first|refine blk_drewN ?_ _|refine blk_drew ?_|refine blk_alloc ?_ _));refine blk_put (cs:=#[.int .i64 3,.int .i64 x238001_1,.slice none 0 0]) ?_ 1 _ rfl;(with_reducible repeat (first|refine blk_drewN ?_ _|refine blk_drew ?_|refine blk_alloc ?_ _));refine blk_put (cs:=#[.int .i64 x238000_1,.int .i64 x238001_1,.slice none 0 0]) ?_ 0 _ rfl;(with_reducible repeat (first|refine blk_drewN ?_ _|refine blk_drew ?_|refine blk_alloc ?_ _));refine blk_far ?_ NB237_243.out _;(with_reducible repeat (first|refine blk_drewN ?_ _|refine blk_drew ?_|refine blk_alloc ?_ _));refine blk_far ?_ NB237_243.out _;(with_reducible repeat (first|refine blk_drewN ?_ _|refine blk_drew ?_|refine blk_alloc ?_ _));refine blk_far ?_ NB237_243.out _;(with_reducible repeat (first|refine blk_drewN ?_ _|refine blk_drew ?_|refine blk_alloc ?_ _));exact BK237.out) Tryd.underlying39 rfl (by kernel_rfl)) rfl ?_
          exact ⟨_,by first|rfl|(simp [errW_none,errW_some] <;> rfl)|(simp [*,errW_none,errW_some] <;> rfl),by first|exact Kd.R_nil _ _ _ _ _|exact Kd.N_nil _ _ _ _ _|exact Kd.V_nil _ _ _ _ _|exact Kd.Q_nil _ _ _ _ _|exact Kd.S_nil _ _ _ _ _,by repeat (first|(with_reducible first|exact HB.out|apply below_alloc|apply pw_below_drewN|apply below_drew1|refine below_set ?_ GE236.out|refine below_set ?_ GE237.out|refine below_set ?_ GE243.out)|exact HB.out)⟩
         rw [if_neg c23] at H
         exact absurd H (by simp)
        rw [if_neg c22] at H
        exact absurd H (by simp)
       rw [if_neg c21] at H
       exact absurd H (by simp)
      rw [if_neg c20] at H
      have c20b0:((bt a1 x8_1)==10)=false:=beq_eq_false_iff_ne.mpr c20
      have c20b1:((bt a1 x8_1) != 10)=true:=bne_iff_ne.mpr c20
      have H':=Aside0.mk H
      clear H
      have p19:0≤(x8_1:Int):=of_decide_eq_true (by first|(with_reducible assumption)|assumption)
      have q19:x8_1<(a1.size:Int):=of_decide_eq_true (by first|(with_reducible assumption)|assumption)
      have hx19:=bt_at a1 x8_1
      replace p19:=eq_true p19
      replace q19:=eq_true q19
      go_wp2
      go_roundg k1
      case measure=>have:=HK1.out;omega
      case rel=>exact ⟨(x5_1),(x6_1),(x7_1),(wrap64 (x8_1+1)),(x238000_1),(x238001_1),(by first|rfl|(simp;done)|(simp [*];done)),(by first|rfl|(simp;done)|(simp [*];done)),(by first|rfl|(simp;done)|(simp [*];done)),H',⟨by have:=HK1.out;omega⟩,⟨by (with_reducible repeat (first|apply Kd.R_alloc|apply Kd.R_drewN|apply Kd.R_drew));exact HO_5.out⟩,⟨by (with_reducible repeat (first|refine blk_drewN ?_ _|refine blk_drew ?_|refine blk_alloc ?_ _));exact BK236.out⟩,⟨by (with_reducible repeat (first|refine blk_drewN ?_ _|refine blk_drew ?_|refine blk_alloc ?_ _));exact BK237.out⟩,⟨by repeat (first|(with_reducible first|exact HB.out|apply below_alloc|apply pw_below_drewN|apply below_drew1|refine below_set ?_ GE236.out|refine below_set ?_ GE237.out)|exact HB.out)⟩⟩
     rw [if_neg c18] at H
     exact absurd H (by simp)
    rw [if_neg c17] at H
    have c17b0:decide (x8_1<(a1.size:Int))=false:=decide_eq_false c17
    clear c17
    by_cases c61:x6_1<(a1.size:Int)
    ·rw [if_pos c61] at H
     have c61b0:decide (x6_1<(a1.size:Int))=true:=decide_eq_true c61
     clear c61
     simp only [Option.some.injEq,Prod.mk.injEq] at H
     obtain ⟨rfl,rfl,rfl⟩:=H
     have hnb62:=NB237_236.out
     have hnc62:=NB236_237.out
     have hcz63_0:wr.cell? ⟨gb237,0,none⟩=some (.int .i64 x238000_1):=(blk_cell BK237.out 0).trans rfl
     have hcz63_1:wr.cell? ⟨gb237,1,none⟩=some (.int .i64 x238001_1):=(blk_cell BK237.out 1).trans rfl
     have hcz63_2:wr.cell? ⟨gb237,2,none⟩=some (.slice none 0 0):=(blk_cell BK237.out 2).trans rfl
     have hfz63_0:=blk_frozen BK237.out 0
     have hfz63_1:=blk_frozen BK237.out 1
     have hfz63_2:=blk_frozen BK237.out 2
     go_wp2
     refine bodyPost_ret (results_cell_row rfl _ _ gb237 39 #[.int .i64 3,.int .i64 (wrap64 (x7_1+1)),.slice none 0 0] (0,0) _ rfl (by (with_reducible repeat (first|refine blk_drewN ?_ _|refine blk_drew ?_|refine blk_alloc ?_ _));refine blk_put (cs:=#[.int .i64 3,.int .i64 (wrap64 (x7_1+1)),.slice none 0 0]) ?_ 2 _ rfl;(with_reducible repeat (first|refine blk_drewN ?_ _|refine blk_drew ?_|refine blk_alloc ?_ _));refine blk_put (cs:=#[.int .i64 3,.int .i64 x238001_1,.slice none 0 0]) ?_ 1 _ rfl;(with_reducible repeat (first|refine blk_drewN ?_ _|refine blk_drew ?_|refine blk_alloc ?_ _));refine blk_put (cs:=#[.int .i64 x238000_1,.int .i64 x238001_1,.slice none 0 0]) ?_ 0 _ rfl;(with_reducible repeat (first|refine blk_drewN ?_ _|refine blk_drew ?_|refine blk_alloc ?_ _));exact BK237.out) Tryd.underlying39 rfl (by kernel_rfl)) rfl ?_
     exact ⟨_,by first|rfl|(simp [errW_none,errW_some] <;> rfl)|(simp [*,errW_none,errW_some] <;> rfl),by first|exact Kd.R_nil _ _ _ _ _|exact Kd.N_nil _ _ _ _ _|exact Kd.V_nil _ _ _ _ _|exact Kd.Q_nil _ _ _ _ _|exact Kd.S_nil _ _ _ _ _,by repeat (first|(with_reducible first|exact HB.out|apply below_alloc|apply pw_below_drewN|apply below_drew1|refine below_set ?_ GE236.out|refine below_set ?_ GE237.out)|exact HB.out)⟩
    rw [if_neg c61] at H
    have c61b0:decide (x6_1<(a1.size:Int))=false:=decide_eq_false c61
    clear c61
    simp only [Option.some.injEq,Prod.mk.injEq] at H
    obtain ⟨rfl,rfl,rfl⟩:=H
    obtain ⟨Ao64,co64,eo64⟩:=Kd.R_slice HO_5.out
    subst eo64
    have hnb65:=NB237_236.out
    have hnc65:=NB236_237.out
    have hcz66_0:wr.cell? ⟨gb237,0,none⟩=some (.int .i64 x238000_1):=(blk_cell BK237.out 0).trans rfl
    have hcz66_1:wr.cell? ⟨gb237,1,none⟩=some (.int .i64 x238001_1):=(blk_cell BK237.out 1).trans rfl
    have hcz66_2:wr.cell? ⟨gb237,2,none⟩=some (.slice none 0 0):=(blk_cell BK237.out 2).trans rfl
    have hfz66_0:=blk_frozen BK237.out 0
    have hfz66_1:=blk_frozen BK237.out 1
    have hfz66_2:=blk_frozen BK237.out 2
    go_wp2
    refine bodyPost_ret (results_cell_row rfl _ _ gb237 39 #[.int .i64 0,.int .i64 0,.slice Ao64 x5_1.length co64] (0,0) _ rfl (by (with_reducible repeat (first|refine blk_drewN ?_ _|refine blk_drew ?_|refine blk_alloc ?_ _));refine blk_put (cs:=#[.int .i64 0,.int .i64 0,.slice none 0 0]) ?_ 2 _ rfl;(with_reducible repeat (first|refine blk_drewN ?_ _|refine blk_drew ?_|refine blk_alloc ?_ _));refine blk_put (cs:=#[.int .i64 0,.int .i64 x238001_1,.slice none 0 0]) ?_ 1 _ rfl;(with_reducible repeat (first|refine blk_drewN ?_ _|refine blk_drew ?_|refine blk_alloc ?_ _));refine blk_put (cs:=#[.int .i64 x238000_1,.int .i64 x238001_1,.slice none 0 0]) ?_ 0 _ rfl;(with_reducible repeat (first|refine blk_drewN ?_ _|refine blk_drew ?_|refine blk_alloc ?_ _));exact BK237.out) Tryd.underlying39 rfl (by kernel_rfl)) rfl ?_
    exact ⟨_,by first|rfl|(simp [errW_none,errW_some] <;> rfl)|(simp [*,errW_none,errW_some] <;> rfl),by (with_reducible repeat (first|apply Kd.R_alloc|apply Kd.R_drewN|apply Kd.R_drew));exact Kd.R_mono (Kd.R_far (p:=⟨gb237,2,none⟩) (Kd.R_far (p:=⟨gb237,1,none⟩) (Kd.R_far (p:=⟨gb237,0,none⟩) (Kd.R_types HO_5.out BK237.out (by decide)) (fun _ hk=>hk.2) (.int .i64 0)) (fun _ hk=>hk.2) (.int .i64 0)) (fun _ hk=>hk.2) (.slice Ao64 x5_1.length co64)) (fun _ hk=>trivial),by repeat (first|(with_reducible first|exact HB.out|apply below_alloc|apply pw_below_drewN|apply below_drew1|refine below_set ?_ GE236.out|refine below_set ?_ GE237.out)|exact HB.out)⟩
 rw [if_neg c4] at H
 have c4b0:(t238==0)=false:=beq_eq_false_iff_ne.mpr c4
 have c4b1:(t238 != 0)=true:=bne_iff_ne.mpr c4
 simp only [Option.some.injEq,Prod.mk.injEq] at H
 obtain ⟨rfl,rfl,rfl⟩:=H
 go_enter Tryd.func15,Tryd.ntmps15
 go_wp2_with (first|((with_reducible refine gate_dst (N:=2) rfl ?_);(try (refine gate_guard (by rfl) ?_;dsimp only));refine box_event ?hg (N:=2) ?hd (cs:=#[.int .i64 a0_0,.slice A0_1 l0_1.length c0_1]) (t:=31) ?hr ?_;(case hd=>rfl);(case hg=>rfl);(case hr=>first|(go_simp;done)|(go_simp;rfl));intro gb236 hg w67 hbox hb;have n0_:=Aside0.mk (below_step (by repeat (first|(with_reducible first|exact HB.out|apply below_alloc|apply pw_below_drewN|apply below_drew1)|exact HB.out)) hb);have n1_:=Aside0.mk (hbox);have n2_:=Aside0.mk ((by rw [hg];exact (below_size (by repeat (first|(with_reducible first|exact HB.out|apply below_alloc|apply pw_below_drewN|apply below_drew1)|exact HB.out))):w.heap.size≤gb236));have n3_:=Aside0.mk ((by rw [hg];exact (below_size (by repeat (first|(with_reducible first|exact HB.out|apply below_alloc|apply pw_below_drewN|apply below_drew1)|exact HB.out))):w.heap.size≤gb236));clear HB;have HB:=n0_;have BK236:=n1_;have GW236:=n2_;have GE236:=n3_;clear n0_ n1_ n2_ n3_;clear hb hbox hg)|((with_reducible refine gate_dst (N:=4) rfl ?_);(try (refine gate_guard (by rfl) ?_;dsimp only));refine box_event ?hg (N:=4) ?hd (cs:=#[.int .i64 0,.int .i64 0,.slice none 0 0]) (t:=39) ?hr ?_;(case hd=>rfl);(case hg=>rfl);(case hr=>first|(go_simp;done)|(go_simp;rfl));intro gb237 hg w68 hbox hb;have n0_:=Aside0.mk (blk_below (g:=gb236) (o:=.cells #[.int .i64 a0_0,.slice A0_1 l0_1.length c0_1] 31 (0,0)) (by (with_reducible repeat (first|refine blk_drewN ?_ _|refine blk_drew ?_|refine blk_alloc ?_ _));exact BK236.out) hb);have n1_:=Aside0.mk (below_step (by repeat (first|(with_reducible first|exact HB.out|apply below_alloc|apply pw_below_drewN|apply below_drew1|refine below_set ?_ GE236.out)|exact HB.out)) hb);have n2_:=Aside0.mk (hbox);have n3_:=Aside0.mk ((by rw [hg];exact (below_size (by repeat (first|(with_reducible first|exact HB.out|apply below_alloc|apply pw_below_drewN|apply below_drew1|refine below_set ?_ GE236.out)|exact HB.out))):w.heap.size≤gb237));have n4_:=Aside0.mk ((by rw [hg];exact (below_size (by repeat (first|(with_reducible first|exact HB.out|apply below_alloc|apply pw_below_drewN|apply below_drew1|refine below_set ?_ GE236.out)|exact HB.out))):w.heap.size≤gb237));have n5_:=Aside0.mk ((by rw [hg];exact Nat.ne_of_lt (blk_lt (g:=gb236) (o:=.cells #[.int .i64 a0_0,.slice A0_1 l0_1.length c0_1] 31 (0,0)) (by (with_reducible repeat (first|refine blk_drewN ?_ _|refine blk_drew ?_|refine blk_alloc ?_ _));exact BK236.out)):gb236 ≠ gb237));have n6_:=Aside0.mk ((by rw [hg];exact Nat.ne_of_gt (blk_lt (g:=gb236) (o:=.cells #[.int .i64 a0_0,.slice A0_1 l0_1.length c0_1] 31 (0,0)) (by (with_reducible repeat (first|refine blk_drewN ?_ _|refine blk_drew ?_|refine blk_alloc ?_ _));exact BK236.out)):gb237 ≠ gb236));clear BK236;clear HB;have BK236:=n0_;have HB:=n1_;have BK237:=n2_;have GW237:=n3_;have GE237:=n4_;have NB236_237:=n5_;have NB237_236:=n6_;clear n0_ n1_ n2_ n3_ n4_ n5_ n6_;clear hb hbox hg;have hnb69:=NB236_237.out;have hnc69:=NB237_236.out;have hcz70_0:w68.cell? ⟨gb236,0,none⟩=some (.int .i64 a0_0):=(blk_cell BK236.out 0).trans rfl;have hcz70_1:w68.cell? ⟨gb236,1,none⟩=some (.slice A0_1 l0_1.length c0_1):=(blk_cell BK236.out 1).trans rfl;have hfz70_0:=blk_frozen BK236.out 0;have hfz70_1:=blk_frozen BK236.out 1)|((with_reducible refine gate_callee (f:=38) rfl ?_);refine goesL_ (some 12) rfl rfl Tryd.func38 (by kernel_rfl) rfl #[.agg #[.int .i64 a0_0,.slice A0_1 l0_1.length c0_1]] rfl (by (try simp only [List.map_toArray,List.map_cons,List.map_nil]);first|done|rfl|(simp only [List.length_drop,List.length_take];rfl)) ?_;(with_reducible refine (spec_LayoutOk.calls k a0_0 _ _ l0_1 t238 _ ?side1 ?side2 A3.out).mono ?_);(case side1=>repeat (first|exact (Kd.C_below HR0_1.out HB.out)|(with_reducible refine Kd.C_alloc ?_ _)|(with_reducible refine Kd.C_drewN ?_ _)|(with_reducible refine Kd.C_drew ?_)));(case side2=>exact HC0_1.out);rintro e w71 ⟨rfl,hb⟩;refine ⟨_,rfl,?_⟩;have n0_:=Aside0.mk (blk_below (g:=gb236) (o:=.cells #[.int .i64 a0_0,.slice A0_1 l0_1.length c0_1] 31 (0,0)) (by (with_reducible repeat (first|refine blk_drewN ?_ _|refine blk_drew ?_|refine blk_alloc ?_ _));exact BK236.out) hb);have n1_:=Aside0.mk (blk_below (g:=gb237) (o:=.cells #[.int .i64 0,.int .i64 0,.slice none 0 0] 39 (0,0)) (by (with_reducible repeat (first|refine blk_drewN ?_ _|refine blk_drew ?_|refine blk_alloc ?_ _));exact BK237.out) hb);have n2_:=Aside0.mk (below_step (by repeat (first|(with_reducible first|exact HB.out|apply below_alloc|apply pw_below_drewN|apply below_drew1|refine below_set ?_ GE236.out|refine below_set ?_ GE237.out)|exact HB.out)) hb);clear BK236;clear BK237;clear HB;have BK236:=n0_;have BK237:=n1_;have HB:=n2_;clear n0_ n1_ n2_;(try clear hb);(try clear hb2);(try clear hk);(try clear hi);have hcz72_0:w71.cell? ⟨gb237,0,none⟩=some (.int .i64 0):=(blk_cell BK237.out 0).trans rfl;have hcz72_1:w71.cell? ⟨gb237,1,none⟩=some (.int .i64 0):=(blk_cell BK237.out 1).trans rfl;have hcz72_2:w71.cell? ⟨gb237,2,none⟩=some (.slice none 0 0):=(blk_cell BK237.out 2).trans rfl;have hfz72_0:=blk_frozen BK237.out 0;have hfz72_1:=blk_frozen BK237.out 1;have hfz72_2:=blk_frozen BK237.out 2))
 refine bodyPost_ret (results_cell_row rfl _ _ gb237 39 #[.int .i64 1,.int .i64 0,.slice none 0 0] (0,0) _ rfl (by (with_reducible repeat (first|refine blk_drewN ?_ _|refine blk_drew ?_|refine blk_alloc ?_ _));refine blk_put (cs:=#[.int .i64 1,.int .i64 0,.slice none 0 0]) ?_ 2 _ rfl;(with_reducible repeat (first|refine blk_drewN ?_ _|refine blk_drew ?_|refine blk_alloc ?_ _));refine blk_put (cs:=#[.int .i64 1,.int .i64 0,.slice none 0 0]) ?_ 1 _ rfl;(with_reducible repeat (first|refine blk_drewN ?_ _|refine blk_drew ?_|refine blk_alloc ?_ _));refine blk_put (cs:=#[.int .i64 0,.int .i64 0,.slice none 0 0]) ?_ 0 _ rfl;(with_reducible repeat (first|refine blk_drewN ?_ _|refine blk_drew ?_|refine blk_alloc ?_ _));exact BK237.out) Tryd.underlying39 rfl (by kernel_rfl)) rfl ?_
 exact ⟨_,by first|rfl|(simp [errW_none,errW_some] <;> rfl)|(simp [*,errW_none,errW_some] <;> rfl),by first|exact Kd.R_nil _ _ _ _ _|exact Kd.N_nil _ _ _ _ _|exact Kd.V_nil _ _ _ _ _|exact Kd.Q_nil _ _ _ _ _|exact Kd.S_nil _ _ _ _ _,by repeat (first|(with_reducible first|exact HB.out|apply below_alloc|apply pw_below_drewN|apply below_drew1|refine below_set ?_ GE236.out|refine below_set ?_ GE237.out)|exact HB.out)⟩
end Go.Proofs.YtpdnabhpkdchjaaDoor.P
namespace Go.Proofs.YtpdnabhpkdchjaaDoor.P
open Go Go.RowKit Go.Proofs.YtpdnabhpkdchjaaDoorW.PrintWords Go.Proofs.YtpdnabhpkdchjaaDoorW.PrintLast Go.Proofs.YtpdnabhpkdchjaaDoorW.PrintMore
set_option linter.unusedVariables false
set_option linter.unusedSimpArgs false
open Classical in
noncomputable def readGo (n:Int) (l:List S98):Nat→List UInt8→Int→List S52→Int × Int × List S52
 | 0,_,_,out=>(0,0,out)
 | f+1,s,m,out=>if s=[] then (0,0,out) else if (10:UInt8) ∉ s then (3,m+1,[]) else
  match evOf n l (s.takeWhile (· != 10)) with
  | none=>(3,m+1,[])
  | some e=>if out.length=2000 then (3,m+1,[]) else readGo n l f (s.dropWhile (· != 10)).tail (m+1) (out ++ [e])
noncomputable def readE (n:Int) (l:List S98) (s:List UInt8):Int × Int × List S52 :=
 if layoutOk n l=0 then (if s.length > 20000 then (2,0,[]) else readGo n l s.length s 0 []) else (1,0,[])
theorem line_cut {a r:List UInt8} (h:(10:UInt8) ∉ a):(a ++ 10 :: r).takeWhile (· != 10)=a∧((a ++ 10 :: r).dropWhile (· != 10)).tail=r:=by
 induction a with
 | nil=>simp [List.takeWhile,List.dropWhile]
 | cons x a ih =>
  simp only [List.mem_cons,not_or] at h
  have hx:(x != 10)=true:=by simpa using (fun hc=>h.1 hc.symm)
  have:=ih h.2
  rw [List.cons_append,List.takeWhile_cons,List.dropWhile_cons,if_pos hx,if_pos hx]
  exact ⟨by rw [this.1],this.2⟩
theorem bt_bs (s:List UInt8) (i:Nat) (h:i<s.length):bt (bs s) (i:Int)=(s[i].toNat:Int):=by
 rw [← rd_bytesOf,bs_bytes]
 simp [rd,h]
theorem read_l0 (n:Int) (l:List S98) (s:List UInt8) (hl:layoutOk n l=0) (hs:s.length≤20000) (d:Nat) :
  ∀ (i at_:Nat) (m:Int) (out:List S52) (f:Nat),i+d=s.length→at_≤i→(10:UInt8) ∉ (s.take i).drop at_→0≤m→m≤i→out.length≤2000→s.length - at_≤f →
  Ev (fun k=>spec_ReadEvents.l0 k (bs s) out at_ m i n l) (readGo n l f (s.drop at_) m out):=by
 induction d with
 | zero =>
  intro i at_ m out f hi ha h10 hm0 hm ho hf
  obtain rfl:i=s.length:=by omega
  rw [List.take_length] at h10
  refine Ev.step (f:=fun _=>some (readGo n l f (s.drop at_) m out)) (fun k=>?_) (Ev.now _)
  rw [spec_ReadEvents.l0,if_neg (by rw [bs_size];omega),bs_size]
  by_cases hat:at_<s.length
  ·obtain ⟨f,rfl⟩:∃ f',f=f'+1:=⟨f - 1,by omega⟩
   rw [if_pos (by omega),readGo,if_neg (by simpa using hat),if_pos h10,wrap_id (by omega) (by omega)]
  have hd:s.drop at_=[]:=List.drop_of_length_le (by omega)
  rw [if_neg (by omega),hd]
  cases f <;> simp [readGo]
 | succ d ih =>
  intro i at_ m out f hi ha h10 hm0 hm ho hf
  have hil:i<s.length:=by omega
  have e0:∀ k,spec_ReadEvents.l0 (k+1) (bs s) out at_ m i n l=(if (s[i].toNat:Int)=10 then ((spec_l4event.f k n l (bs ((s.take i).drop at_))).bind fun bt239=>(if bt239.2.2.2=true then (if (out.length:Int)=2000 then (some (3,m+1,([]:List (S52)))) else (if out.length<5864062014805 then (spec_ReadEvents.l0 k (bs s) (out ++ [(⟨bt239.1,bt239.2.1,bt239.2.2.1⟩:S52)]) ((i+1:Nat):Int) (m+1) ((i+1:Nat):Int) n l) else (none))) else (some (3,m+1,([]:List (S52)))))) else (spec_ReadEvents.l0 k (bs s) out at_ m ((i+1:Nat):Int) n l)):=by
   intro k
   rw [spec_ReadEvents.l0,if_pos (by rw [bs_size];omega),if_pos (by omega),bt_bs s i hil]
   by_cases h:(s[i].toNat:Int)=10
   ·rw [if_pos h,if_pos h,if_pos (by omega),if_pos (by omega),if_pos (by rw [bs_size];omega),wrap_succ (by omega),wrap_id (x:=m+1) (by omega) (by omega),Int.toNat_natCast,Int.toNat_natCast,bs_take]
   rw [if_neg h,if_neg h,wrap_succ (by omega)]
  refine Ev.step e0 ?_
  by_cases h:(s[i].toNat:Int)=10
  ·refine Ev.ite_pos h ?_
   have h':s[i]=10:=by
    apply UInt8.toNat_inj.1
    show s[i].toNat=10
    omega
   have hsp:s.drop at_=(s.take i).drop at_ ++ 10 :: s.drop (i+1):=by
    rw [← h',← List.drop_eq_getElem_cons hil,← List.drop_append_of_le_length (by rw [List.length_take];omega),List.take_append_drop]
   have hc:=line_cut (r:=s.drop (i+1)) h10
   obtain ⟨f,rfl⟩:∃ f',f=f'+1:=⟨f - 1,by omega⟩
   refine Ev.bind (l4event_ev (s:=(s.take i).drop at_) hl) ?_
   rw [readGo,if_neg (by rw [hsp];simp),if_neg (by rw [hsp];simp),hsp,hc.1,hc.2]
   unfold evRes
   cases hev:evOf n l ((s.take i).drop at_) with
   | none=>exact Ev.ite_neg (by simp) (Ev.now _)
   | some e =>
    refine Ev.ite_pos rfl ?_
    dsimp only
    by_cases h2:out.length=2000
    ·rw [if_pos h2]
     exact Ev.ite_pos (by omega) (Ev.now _)
    rw [if_neg h2]
    refine Ev.ite_neg (by omega) (Ev.ite_pos (by omega) ?_)
    have hz:(10:UInt8) ∉ (s.take (i+1)).drop (i+1):=by
     rw [List.drop_of_length_le (by rw [List.length_take];omega)]
     simp
    exact ih (i+1) (i+1) (m+1) (out ++ [e]) f (by omega) (by omega) hz (by omega) (by omega) (by simp;omega) (by omega)
  refine Ev.ite_neg h ?_
  refine ih (i+1) at_ m out f (by omega) (by omega) ?_ hm0 (by omega) ho hf
  rw [List.take_succ_eq_append_getElem hil,List.drop_append_of_le_length (by rw [List.length_take];omega)]
  intro hc
  rcases List.mem_append.1 hc with hc|hc
  ·exact h10 hc
  have:s[i]=10:=by simpa using (List.mem_singleton.1 hc).symm
  rw [this] at h
  exact h rfl
theorem specRead_ev (n:Int) (l:List S98) (s:List UInt8):Ev (fun k=>spec_ReadEvents.f k n l (bs s)) (readE n l s):=by
 unfold spec_ReadEvents.f readE
 refine Ev.bind (specLayoutOk_ev n l) ?_
 by_cases hl:layoutOk n l=0
 ·rw [if_pos hl]
  refine Ev.ite_pos hl ?_
  by_cases hs:s.length > 20000
  ·rw [if_pos hs]
   exact Ev.ite_pos (by rw [bs_size];omega) (Ev.now _)
  rw [if_neg hs]
  refine Ev.ite_neg (by rw [bs_size];omega) ?_
  have:=read_l0 n l s hl (by omega) s.length 0 0 0 [] s.length (by omega) (by omega) (by simp) (by omega) (by omega) (by simp) (by omega)
  simpa using this
 rw [if_neg hl]
 exact Ev.ite_neg hl (Ev.now _)
end Go.Proofs.YtpdnabhpkdchjaaDoor.P
namespace Go.Proofs.YtpdnabhpkdchjaaDoor.P
open Go Go.RowKit Go.Proofs.YtpdnabhpkdchjaaDoorW.PrintWords Go.Proofs.YtpdnabhpkdchjaaDoorW.PrintLast Go.Proofs.YtpdnabhpkdchjaaDoorW.PrintMore
set_option linter.unusedVariables false
set_option linter.unusedSimpArgs false
theorem readGo_form {n:Int} {l:List S98}:∀ (f:Nat) (s:List UInt8) (m:Int) (out:List S52),0≤m→out.length≤2000→((readGo n l f s m out).1=0 ∨ (readGo n l f s m out).1=3)∧(readGo n l f s m out).2.2.length≤2000∧0≤(readGo n l f s m out).2.1∧(readGo n l f s m out).2.1≤m+f
 | 0,s,m,out,h0,h=>by rw [readGo];exact ⟨.inl rfl,h,Int.le_refl _,by show (0:Int)≤m+((0:Nat):Int);omega⟩
 | f+1,s,m,out,h0,h=>by
  rw [readGo]
  split
  ·exact ⟨.inl rfl,h,by simp,by simp;omega⟩
  split
  ·exact ⟨.inr rfl,by simp,by simp;omega,by simp;omega⟩
  split
  ·exact ⟨.inr rfl,by simp,by simp;omega,by simp;omega⟩
  split
  ·exact ⟨.inr rfl,by simp,by simp;omega,by simp;omega⟩
  rename_i e _ h2
  have:=readGo_form (n:=n) (l:=l) f (s.dropWhile (· != 10)).tail (m+1) (out ++ [e]) (by omega) (by rw [List.length_append,List.length_singleton];omega)
  exact ⟨this.1,this.2.1,this.2.2.1,by omega⟩
theorem readE_form (n:Int) (l:List S98) (s:List UInt8):(0≤(readE n l s).1∧(readE n l s).1≤3)∧(0≤(readE n l s).2.1∧(readE n l s).2.1≤20000)∧(readE n l s).2.2.length≤2000:=by
 unfold readE
 split
 ·split
  ·simp
  have:=readGo_form (n:=n) (l:=l) s.length s 0 [] (by omega) (by simp)
  exact ⟨by rcases this.1 with h|h <;> omega,⟨this.2.2.1,by omega⟩,this.2.1⟩
 simp
end Go.Proofs.YtpdnabhpkdchjaaDoor.P
namespace Go.Proofs.YtpdnabhpkdchjaaDoor.P
open Go.RowKit Go.Proofs.YtpdnabhpkdchjaaDoorW.PrintWords Go.Proofs.YtpdnabhpkdchjaaDoorW.PrintLast Go.Proofs.YtpdnabhpkdchjaaDoorW.PrintMore
set_option linter.unusedVariables false
set_option linter.unusedSimpArgs false
section
variable {w : World} {base : Nat} {ok : Nat → Prop} {g n c : Nat} {l : List S87}
theorem sec_at (h:Kd.R k87 87 w base ok (.slice (some ⟨g,0,none⟩) n c) l) (i:Int) (h0:0≤i) (h1:i<n) :
  w.cell? ⟨g,i.toNat * 5,none⟩=some (.int .i64 (rd_T87 l i).f0)∧w.cell? ⟨g,i.toNat * 5+1,none⟩=some (.int .i64 (rd_T87 l i).f1)∧w.cell? ⟨g,i.toNat * 5+2,none⟩=some (.bool (rd_T87 l i).f2) ∧
  w.cell? ⟨g,i.toNat * 5+3,none⟩=some (.bool (rd_T87 l i).f3)∧w.cell? ⟨g,i.toNat * 5+4,none⟩=some (.int .i64 (rd_T87 l i).f4) ∧
  w.frozen? ⟨g,i.toNat * 5,none⟩=false∧w.frozen? ⟨g,i.toNat * 5+1,none⟩=false∧w.frozen? ⟨g,i.toNat * 5+2,none⟩=false∧w.frozen? ⟨g,i.toNat * 5+3,none⟩=false∧w.frozen? ⟨g,i.toNat * 5+4,none⟩=false:=by
 obtain ⟨ce,hcl,hM,hcc,hfr⟩:=Kd.R_elem h z87 i h0 h1
 obtain rfl:=k87_openM hM
 exact ⟨hcc 0 _ rfl,hcc 1 _ rfl,hcc 2 _ rfl,hcc 3 _ rfl,hcc 4 _ rfl,hfr 0,hfr 1,hfr 2,hfr 3,hfr 4⟩
theorem sec_put (h:Kd.R k87 87 w base ok (.slice (some ⟨g,0,none⟩) n c) l) (i:Int) (h0:0≤i) (h1:i<n) (j:Nat) (hj:j<5) (u:Value) (x':S87)
  (hx:([.int .i64 (rd_T87 l i).f0,.int .i64 (rd_T87 l i).f1,.bool (rd_T87 l i).f2,.bool (rd_T87 l i).f3,.int .i64 (rd_T87 l i).f4]:List Value).take j ++ [u] ++ ([.int .i64 (rd_T87 l i).f0,.int .i64 (rd_T87 l i).f1,.bool (rd_T87 l i).f2,.bool (rd_T87 l i).f3,.int .i64 (rd_T87 l i).f4]:List Value).drop (j+1)=[.int .i64 x'.f0,.int .i64 x'.f1,.bool x'.f2,.bool x'.f3,.int .i64 x'.f4]) :
  Kd.R k87 87 (w.setCell ⟨g,i.toNat * 5+j,none⟩ u) base ok (.slice (some ⟨g,0,none⟩) n c) (l.set i.toNat x')∧w.grownBy (w.setCell ⟨g,i.toNat * 5+j,none⟩ u) (some g):=by
 obtain ⟨ce,hcl,hM,hcc,hfr⟩:=Kd.R_elem h z87 i h0 h1
 have hM0:=k87_openM hM
 change ce=[.int .i64 (rd_T87 l i).f0,.int .i64 (rd_T87 l i).f1,.bool (rd_T87 l i).f2,.bool (rd_T87 l i).f3,.int .i64 (rd_T87 l i).f4] at hM0
 subst hM0
 have HP:=Kd.R_seg h i h0 h1 (seg:=[u]) (j:=j) (okp:=fun k=>ok k∧k ≠ g) hcl hcc (show j+1≤5 by omega) (x':=x') (by
  have e:([.int .i64 (rd_T87 l i).f0,.int .i64 (rd_T87 l i).f1,.bool (rd_T87 l i).f2,.bool (rd_T87 l i).f3,.int .i64 (rd_T87 l i).f4]:List Value).take j ++ [u] ++ ([.int .i64 (rd_T87 l i).f0,.int .i64 (rd_T87 l i).f1,.bool (rd_T87 l i).f2,.bool (rd_T87 l i).f3,.int .i64 (rd_T87 l i).f4]:List Value).drop (j+1)=_:=hx
  show k87.M w base _ x' (_ ++ [u] ++ List.drop (j+1) _)
  rw [e]
  exact k87_mkM _ _ _ x') (fun _ hk=>hk)
 exact HP
def SecSt (base:Nat) (ok:Nat→Prop) (g n c:Nat) (l:List S87) (i:Int) (w0 w:World) (y:S87):Prop :=
 Kd.R k87 87 w base ok (.slice (some ⟨g,0,none⟩) n c) (l.set i.toNat y)∧w0.grownBy w (some g)
variable {i : Int} {w0 : World} {a0 a1 a4 : Int} {a2 a3 : Bool}
theorem SecSt.start (h:Kd.R k87 87 w base ok (.slice (some ⟨g,0,none⟩) n c) l) (h0:0≤i) (h1:i<n):SecSt base ok g n c l i w w ⟨(rd_T87 l i).f0,(rd_T87 l i).f1,(rd_T87 l i).f2,(rd_T87 l i).f3,(rd_T87 l i).f4⟩:=by
 refine ⟨?_,World.grownBy.refl w _⟩
 have hl:=(Kd.R_reads' h).1
 have e:l.set i.toNat ⟨(rd_T87 l i).f0,(rd_T87 l i).f1,(rd_T87 l i).f2,(rd_T87 l i).f3,(rd_T87 l i).f4⟩=l:=by
  have hlt:i.toNat<l.length:=by omega
  show l.set i.toNat (rd_T87 l i)=l
  simp only [rd_T87,List.getD_eq_getElem?_getD,List.getElem?_eq_getElem hlt,Option.getD_some,List.set_getElem_self]
 rw [e]
 exact h
theorem SecSt.put (h:SecSt base ok g n c l i w0 w ⟨a0,a1,a2,a3,a4⟩) (h0:0≤i) (h1:i<n) (j:Nat) (hj:j<5) (u:Value) (x':S87)
  (hx:([.int .i64 a0,.int .i64 a1,.bool a2,.bool a3,.int .i64 a4]:List Value).take j ++ [u] ++ ([.int .i64 a0,.int .i64 a1,.bool a2,.bool a3,.int .i64 a4]:List Value).drop (j+1)=[.int .i64 x'.f0,.int .i64 x'.f1,.bool x'.f2,.bool x'.f3,.int .i64 x'.f4]) :
  SecSt base ok g n c l i w0 (w.setCell ⟨g,i.toNat * 5+j,none⟩ u) x':=by
 have hl:=(Kd.R_reads' h.1).1
 have hlt:i.toNat<l.length:=by simp at hl;omega
 have e:rd_T87 (l.set i.toNat ⟨a0,a1,a2,a3,a4⟩) i=⟨a0,a1,a2,a3,a4⟩:=by
  simp [rd_T87,List.getD_eq_getElem?_getD,List.getElem?_set_self hlt]
 obtain ⟨h2,h3⟩:=sec_put h.1 i h0 h1 j hj u x' (by rw [e];exact hx)
 rw [List.set_set] at h2
 exact ⟨h2,h.2.trans h3⟩
theorem SecSt.put0 (h:SecSt base ok g n c l i w0 w ⟨a0,a1,a2,a3,a4⟩) (h0:0≤i) (h1:i<n) {u:Int} {off:Nat} (ho:off=i.toNat * 5+0):SecSt base ok g n c l i w0 (w.setCell ⟨g,off,none⟩ (.int .i64 u)) ⟨u,a1,a2,a3,a4⟩:=ho ▸ h.put h0 h1 0 (by omega) _ _ rfl
theorem SecSt.put1 (h:SecSt base ok g n c l i w0 w ⟨a0,a1,a2,a3,a4⟩) (h0:0≤i) (h1:i<n) {u:Int} {off:Nat} (ho:off=i.toNat * 5+1):SecSt base ok g n c l i w0 (w.setCell ⟨g,off,none⟩ (.int .i64 u)) ⟨a0,u,a2,a3,a4⟩:=ho ▸ h.put h0 h1 1 (by omega) _ _ rfl
theorem SecSt.put2 (h:SecSt base ok g n c l i w0 w ⟨a0,a1,a2,a3,a4⟩) (h0:0≤i) (h1:i<n) {u:Bool} {off:Nat} (ho:off=i.toNat * 5+2):SecSt base ok g n c l i w0 (w.setCell ⟨g,off,none⟩ (.bool u)) ⟨a0,a1,u,a3,a4⟩:=ho ▸ h.put h0 h1 2 (by omega) _ _ rfl
theorem SecSt.put3 (h:SecSt base ok g n c l i w0 w ⟨a0,a1,a2,a3,a4⟩) (h0:0≤i) (h1:i<n) {u:Bool} {off:Nat} (ho:off=i.toNat * 5+3):SecSt base ok g n c l i w0 (w.setCell ⟨g,off,none⟩ (.bool u)) ⟨a0,a1,a2,u,a4⟩:=ho ▸ h.put h0 h1 3 (by omega) _ _ rfl
theorem SecSt.put4 (h:SecSt base ok g n c l i w0 w ⟨a0,a1,a2,a3,a4⟩) (h0:0≤i) (h1:i<n) {u:Int} {off:Nat} (ho:off=i.toNat * 5+4):SecSt base ok g n c l i w0 (w.setCell ⟨g,off,none⟩ (.int .i64 u)) ⟨a0,a1,a2,a3,u⟩:=ho ▸ h.put h0 h1 4 (by omega) _ _ rfl
theorem SecSt.eq {y z:S87} (h:SecSt base ok g n c l i w0 w y) (e:z=y):SecSt base ok g n c l i w0 w z:=e ▸ h
end
def cntN (x:S87) (b:Int):Int:=if -1000000≤wrap64 (x.f1+b)∧wrap64 (x.f1+b)≤1000000 then wrap64 (x.f1+b) else x.f1
def countS (x:S87) (b:Int):S87:=⟨x.f0,cntN x b,x.f2 || decide (cntN x b<0),x.f3 && !(decide (cntN x b=0) && decide (b=-1)),b⟩
theorem cnt_in {x:S87} {b:Int} (h1:-1000000≤wrap64 (x.f1+b)) (h2:wrap64 (x.f1+b)≤1000000):cntN x b=wrap64 (x.f1+b):=by unfold cntN;rw [if_pos ⟨h1,h2⟩]
theorem cnt_lo {x:S87} {b:Int} (h1:¬ -1000000≤wrap64 (x.f1+b)):cntN x b=x.f1:=by unfold cntN;rw [if_neg (fun h=>h1 h.1)]
theorem cnt_hi {x:S87} {b:Int} (h1:¬ wrap64 (x.f1+b)≤1000000):cntN x b=x.f1:=by unfold cntN;rw [if_neg (fun h=>h1 h.2)]
theorem countS_eq {x:S87} {b C:Int} {lost sw:Bool} (hC:cntN x b=C) (hl:(x.f2 || decide (C<0))=lost) (hs:(x.f3 && !(decide (C=0) && decide (b=-1)))=sw):countS x b=⟨x.f0,C,lost,sw,b⟩:=by
 unfold countS
 rw [hC,hl,hs]
theorem cnt_out (s b:Int) (v:Value) (w:World) (h:s<0):Calls Tryd.prog 74 #[.int .i64 s,.int .i64 b,v] w fun e w'=>e=.returned (.tuple #[])∧w=w':=by
 have h1:decide (s<0)=true:=decide_eq_true h
 go_enter Tryd.func74,Tryd.ntmps74
 go_wp2
 refine bodyPost_ret (results_none rfl _ _ _) rfl ?_
 exact ⟨rfl,rfl⟩
set_option maxHeartbeats 4000000 in
set_option maxRecDepth 100000 in
theorem cnt_calls (s b:Int) (bo:Bool) (g gr n c:Nat) (v2:Value) (l:List S87) (w:World) (base:Nat) (ok:Nat→Prop) (h0:0≤s) (h1:s<n)
  (hb:w.heap[g]?=some (.cells #[.bool bo,.slice (some ⟨gr,0,none⟩) n c,v2] 83 (0,0))) (HO:Kd.R k87 87 w base ok (.slice (some ⟨gr,0,none⟩) n c) l) :
  Calls Tryd.prog 74 #[.int .i64 s,.int .i64 b,.pointer (some ⟨g,0,none⟩)] w fun e w'=>e=.returned (.tuple #[])∧Kd.R k87 87 w' base ok (.slice (some ⟨gr,0,none⟩) n c) (l.set s.toNat (countS (rd_T87 l s) b))∧w.grownBy w' (some gr):=by
 obtain ⟨x0,x1,x2,x3,x4,f0,f1,f2,f3,f4⟩:=sec_at HO s h0 h1
 have hc1:w.cell? ⟨g,1,none⟩=some (.slice (some ⟨gr,0,none⟩) n c):=(blk_cell hb 1).trans rfl
 have hs:decide (s<0)=false:=decide_eq_false (by omega)
 have H0:=Aside0.mk h0
 have H1:=Aside0.mk h1
 have HO2:=Aside0.mk HO
 have hp0:=eq_true h0
 have hp1:=eq_true h1
 have ST:=Aside0.mk (SecSt.start HO H0.out H1.out)
 generalize hx:rd_T87 l s=x at x0 x1 x2 x3 x4 ST ⊢
 have HX:=hx
 clear hx hb h0 h1 HO HO2 HX
 by_cases q1:-1000000≤wrap64 (x.f1+b)
 ·skip
  have f1:decide (wrap64 (x.f1+b) ≥ -1000000)=true:=decide_eq_true q1
  have Q1:=Aside0.mk q1
  clear q1
  by_cases q2:wrap64 (x.f1+b)≤1000000
  ·skip
   have f2:decide (wrap64 (x.f1+b)≤1000000)=true:=decide_eq_true q2
   have Q2:=Aside0.mk q2
   clear q2
   by_cases q3:wrap64 (x.f1+b)<0
   ·skip
    have f3:decide (wrap64 (x.f1+b)<0)=true:=decide_eq_true q3
    have Q3:=Aside0.mk q3
    clear q3
    rcases Bool.eq_false_or_eq_true x.f3 with q4|q4
    ·skip
     by_cases q5:wrap64 (x.f1+b)=0
     ·skip
      have f5:(wrap64 (x.f1+b)==0)=true:=beq_iff_eq.mpr q5
      have Q5:=Aside0.mk q5
      clear q5
      exact absurd Q5.out (by have:=Q3.out;omega)
     skip
     have f5:(wrap64 (x.f1+b)==0)=false:=beq_eq_false_iff_ne.mpr q5
     have Q5:=Aside0.mk q5
     clear q5
     go_enter Tryd.func74,Tryd.ntmps74
     go_wp2
     go_end0
     exact ⟨rfl,SecSt.eq (((ST.out.put1 H0.out H1.out rfl).put4 H0.out H1.out rfl).put2 H0.out H1.out rfl) (countS_eq (cnt_in (by have:=Q1.out;omega) (by have:=Q2.out;omega)) (by rw [decide_eq_true (by have:=Q3.out;omega)];simp) (by rw [decide_eq_false (by have:=Q5.out;omega)];simp))⟩
    have Q4:=Aside0.mk q4
    go_enter Tryd.func74,Tryd.ntmps74
    go_wp2
    go_end0
    exact ⟨rfl,SecSt.eq (((ST.out.put1 H0.out H1.out rfl).put4 H0.out H1.out rfl).put2 H0.out H1.out rfl) (countS_eq (cnt_in (by have:=Q1.out;omega) (by have:=Q2.out;omega)) (by rw [decide_eq_true (by have:=Q3.out;omega)];simp) (by rw [Q4.out];rfl))⟩
   skip
   have f3:decide (wrap64 (x.f1+b)<0)=false:=decide_eq_false q3
   have Q3:=Aside0.mk q3
   clear q3
   rcases Bool.eq_false_or_eq_true x.f3 with q4|q4
   ·skip
    by_cases q5:wrap64 (x.f1+b)=0
    ·skip
     have f5:(wrap64 (x.f1+b)==0)=true:=beq_iff_eq.mpr q5
     have Q5:=Aside0.mk q5
     clear q5
     by_cases q6:b=-1
     ·skip
      have f6:(b==-1)=true:=beq_iff_eq.mpr q6
      have Q6:=Aside0.mk q6
      clear q6
      go_enter Tryd.func74,Tryd.ntmps74
      go_wp2
      go_end0
      exact ⟨rfl,SecSt.eq (((ST.out.put1 H0.out H1.out rfl).put4 H0.out H1.out rfl).put3 H0.out H1.out rfl) (countS_eq (cnt_in (by have:=Q1.out;omega) (by have:=Q2.out;omega)) (by rw [decide_eq_false (by have:=Q3.out;omega)];simp) (by rw [decide_eq_true (by have:=Q5.out;omega),decide_eq_true (by have:=Q6.out;omega)];simp))⟩
     skip
     have f6:(b==-1)=false:=beq_eq_false_iff_ne.mpr q6
     have Q6:=Aside0.mk q6
     clear q6
     go_enter Tryd.func74,Tryd.ntmps74
     go_wp2
     go_end0
     exact ⟨rfl,SecSt.eq ((ST.out.put1 H0.out H1.out rfl).put4 H0.out H1.out rfl) (countS_eq (cnt_in (by have:=Q1.out;omega) (by have:=Q2.out;omega)) (by rw [decide_eq_false (by have:=Q3.out;omega)];simp) (by rw [decide_eq_false (show ¬ b=-1 from Q6.out)];simp))⟩
    skip
    have f5:(wrap64 (x.f1+b)==0)=false:=beq_eq_false_iff_ne.mpr q5
    have Q5:=Aside0.mk q5
    clear q5
    go_enter Tryd.func74,Tryd.ntmps74
    go_wp2
    go_end0
    exact ⟨rfl,SecSt.eq ((ST.out.put1 H0.out H1.out rfl).put4 H0.out H1.out rfl) (countS_eq (cnt_in (by have:=Q1.out;omega) (by have:=Q2.out;omega)) (by rw [decide_eq_false (by have:=Q3.out;omega)];simp) (by rw [decide_eq_false (by have:=Q5.out;omega)];simp))⟩
   have Q4:=Aside0.mk q4
   go_enter Tryd.func74,Tryd.ntmps74
   go_wp2
   go_end0
   exact ⟨rfl,SecSt.eq ((ST.out.put1 H0.out H1.out rfl).put4 H0.out H1.out rfl) (countS_eq (cnt_in (by have:=Q1.out;omega) (by have:=Q2.out;omega)) (by rw [decide_eq_false (by have:=Q3.out;omega)];simp) (by rw [Q4.out];rfl))⟩
  skip
  have f2:decide (wrap64 (x.f1+b)≤1000000)=false:=decide_eq_false q2
  have Q2:=Aside0.mk q2
  clear q2
  by_cases q3:x.f1<0
  ·skip
   have f3:decide (x.f1<0)=true:=decide_eq_true q3
   have Q3:=Aside0.mk q3
   clear q3
   rcases Bool.eq_false_or_eq_true x.f3 with q4|q4
   ·skip
    by_cases q5:x.f1=0
    ·skip
     have f5:(x.f1==0)=true:=beq_iff_eq.mpr q5
     have Q5:=Aside0.mk q5
     clear q5
     exact absurd Q5.out (by have:=Q3.out;omega)
    skip
    have f5:(x.f1==0)=false:=beq_eq_false_iff_ne.mpr q5
    have Q5:=Aside0.mk q5
    clear q5
    go_enter Tryd.func74,Tryd.ntmps74
    go_wp2
    go_end0
    exact ⟨rfl,SecSt.eq ((ST.out.put4 H0.out H1.out rfl).put2 H0.out H1.out rfl) (countS_eq (cnt_hi (by have:=Q2.out;omega)) (by rw [decide_eq_true (by have:=Q3.out;omega)];simp) (by rw [decide_eq_false (by have:=Q5.out;omega)];simp))⟩
   have Q4:=Aside0.mk q4
   go_enter Tryd.func74,Tryd.ntmps74
   go_wp2
   go_end0
   exact ⟨rfl,SecSt.eq ((ST.out.put4 H0.out H1.out rfl).put2 H0.out H1.out rfl) (countS_eq (cnt_hi (by have:=Q2.out;omega)) (by rw [decide_eq_true (by have:=Q3.out;omega)];simp) (by rw [Q4.out];rfl))⟩
  skip
  have f3:decide (x.f1<0)=false:=decide_eq_false q3
  have Q3:=Aside0.mk q3
  clear q3
  rcases Bool.eq_false_or_eq_true x.f3 with q4|q4
  ·skip
   by_cases q5:x.f1=0
   ·skip
    have f5:(x.f1==0)=true:=beq_iff_eq.mpr q5
    have Q5:=Aside0.mk q5
    clear q5
    by_cases q6:b=-1
    ·skip
     have f6:(b==-1)=true:=beq_iff_eq.mpr q6
     have Q6:=Aside0.mk q6
     clear q6
     go_enter Tryd.func74,Tryd.ntmps74
     go_wp2
     go_end0
     exact ⟨rfl,SecSt.eq ((ST.out.put4 H0.out H1.out rfl).put3 H0.out H1.out rfl) (countS_eq (cnt_hi (by have:=Q2.out;omega)) (by rw [decide_eq_false (by have:=Q3.out;omega)];simp) (by rw [decide_eq_true (by have:=Q5.out;omega),decide_eq_true (by have:=Q6.out;omega)];simp))⟩
    skip
    have f6:(b==-1)=false:=beq_eq_false_iff_ne.mpr q6
    have Q6:=Aside0.mk q6
    clear q6
    go_enter Tryd.func74,Tryd.ntmps74
    go_wp2
    go_end0
    exact ⟨rfl,SecSt.eq (ST.out.put4 H0.out H1.out rfl) (countS_eq (cnt_hi (by have:=Q2.out;omega)) (by rw [decide_eq_false (by have:=Q3.out;omega)];simp) (by rw [decide_eq_false (show ¬ b=-1 from Q6.out)];simp))⟩
   skip
   have f5:(x.f1==0)=false:=beq_eq_false_iff_ne.mpr q5
   have Q5:=Aside0.mk q5
   clear q5
   go_enter Tryd.func74,Tryd.ntmps74
   go_wp2
   go_end0
   exact ⟨rfl,SecSt.eq (ST.out.put4 H0.out H1.out rfl) (countS_eq (cnt_hi (by have:=Q2.out;omega)) (by rw [decide_eq_false (by have:=Q3.out;omega)];simp) (by rw [decide_eq_false (by have:=Q5.out;omega)];simp))⟩
  have Q4:=Aside0.mk q4
  go_enter Tryd.func74,Tryd.ntmps74
  go_wp2
  go_end0
  exact ⟨rfl,SecSt.eq (ST.out.put4 H0.out H1.out rfl) (countS_eq (cnt_hi (by have:=Q2.out;omega)) (by rw [decide_eq_false (by have:=Q3.out;omega)];simp) (by rw [Q4.out];rfl))⟩
 skip
 have f1:decide (wrap64 (x.f1+b) ≥ -1000000)=false:=decide_eq_false q1
 have Q1:=Aside0.mk q1
 clear q1
 by_cases q3:x.f1<0
 ·skip
  have f3:decide (x.f1<0)=true:=decide_eq_true q3
  have Q3:=Aside0.mk q3
  clear q3
  rcases Bool.eq_false_or_eq_true x.f3 with q4|q4
  ·skip
   by_cases q5:x.f1=0
   ·skip
    have f5:(x.f1==0)=true:=beq_iff_eq.mpr q5
    have Q5:=Aside0.mk q5
    clear q5
    exact absurd Q5.out (by have:=Q3.out;omega)
   skip
   have f5:(x.f1==0)=false:=beq_eq_false_iff_ne.mpr q5
   have Q5:=Aside0.mk q5
   clear q5
   go_enter Tryd.func74,Tryd.ntmps74
   go_wp2
   go_end0
   exact ⟨rfl,SecSt.eq ((ST.out.put4 H0.out H1.out rfl).put2 H0.out H1.out rfl) (countS_eq (cnt_lo (by have:=Q1.out;omega)) (by rw [decide_eq_true (by have:=Q3.out;omega)];simp) (by rw [decide_eq_false (by have:=Q5.out;omega)];simp))⟩
  have Q4:=Aside0.mk q4
  go_enter Tryd.func74,Tryd.ntmps74
  go_wp2
  go_end0
  exact ⟨rfl,SecSt.eq ((ST.out.put4 H0.out H1.out rfl).put2 H0.out H1.out rfl) (countS_eq (cnt_lo (by have:=Q1.out;omega)) (by rw [decide_eq_true (by have:=Q3.out;omega)];simp) (by rw [Q4.out];rfl))⟩
 skip
 have f3:decide (x.f1<0)=false:=decide_eq_false q3
 have Q3:=Aside0.mk q3
 clear q3
 rcases Bool.eq_false_or_eq_true x.f3 with q4|q4
 ·skip
  by_cases q5:x.f1=0
  ·skip
   have f5:(x.f1==0)=true:=beq_iff_eq.mpr q5
   have Q5:=Aside0.mk q5
   clear q5
   by_cases q6:b=-1
   ·skip
    have f6:(b==-1)=true:=beq_iff_eq.mpr q6
    have Q6:=Aside0.mk q6
    clear q6
    go_enter Tryd.func74,Tryd.ntmps74
    go_wp2
    go_end0
    exact ⟨rfl,SecSt.eq ((ST.out.put4 H0.out H1.out rfl).put3 H0.out H1.out rfl) (countS_eq (cnt_lo (by have:=Q1.out;omega)) (by rw [decide_eq_false (by have:=Q3.out;omega)];simp) (by rw [decide_eq_true (by have:=Q5.out;omega),decide_eq_true (by have:=Q6.out;omega)];simp))⟩
   skip
   have f6:(b==-1)=false:=beq_eq_false_iff_ne.mpr q6
   have Q6:=Aside0.mk q6
   clear q6
   go_enter Tryd.func74,Tryd.ntmps74
   go_wp2
   go_end0
   exact ⟨rfl,SecSt.eq (ST.out.put4 H0.out H1.out rfl) (countS_eq (cnt_lo (by have:=Q1.out;omega)) (by rw [decide_eq_false (by have:=Q3.out;omega)];simp) (by rw [decide_eq_false (show ¬ b=-1 from Q6.out)];simp))⟩
  skip
  have f5:(x.f1==0)=false:=beq_eq_false_iff_ne.mpr q5
  have Q5:=Aside0.mk q5
  clear q5
  go_enter Tryd.func74,Tryd.ntmps74
  go_wp2
  go_end0
  exact ⟨rfl,SecSt.eq (ST.out.put4 H0.out H1.out rfl) (countS_eq (cnt_lo (by have:=Q1.out;omega)) (by rw [decide_eq_false (by have:=Q3.out;omega)];simp) (by rw [decide_eq_false (by have:=Q5.out;omega)];simp))⟩
 have Q4:=Aside0.mk q4
 go_enter Tryd.func74,Tryd.ntmps74
 go_wp2
 go_end0
 exact ⟨rfl,SecSt.eq (ST.out.put4 H0.out H1.out rfl) (countS_eq (cnt_lo (by have:=Q1.out;omega)) (by rw [decide_eq_false (by have:=Q3.out;omega)];simp) (by rw [Q4.out];rfl))⟩
end Go.Proofs.YtpdnabhpkdchjaaDoor.P
namespace Go.Proofs.YtpdnabhpkdchjaaDoor.P
open Go.RowKit Go.Proofs.YtpdnabhpkdchjaaDoorW.PrintWords Go.Proofs.YtpdnabhpkdchjaaDoorW.PrintLast Go.Proofs.YtpdnabhpkdchjaaDoorW.PrintMore
set_option linter.unusedVariables false
set_option linter.unusedSimpArgs false
def loseS (x:S87):S87:=⟨x.f0,x.f1,true,x.f3,x.f4⟩
theorem lose_none (s:Int) (v:Value) (w:World) (h:s<0):Calls Tryd.prog 75 #[.int .i64 s,v] w fun e w'=>e=.returned (.tuple #[])∧w=w':=by
 have h1:decide (s ≥ 0)=false:=decide_eq_false (by omega)
 go_enter Tryd.func75,Tryd.ntmps75
 go_wp2
 go_end0
 exact ⟨rfl,rfl⟩
set_option maxHeartbeats 4000000 in
set_option maxRecDepth 100000 in
theorem lose_calls (s:Int) (bo:Bool) (g gr n c:Nat) (v2:Value) (l:List S87) (w:World) (base:Nat) (ok:Nat→Prop) (h0:0≤s) (h1:s<n)
  (hb:w.heap[g]?=some (.cells #[.bool bo,.slice (some ⟨gr,0,none⟩) n c,v2] 83 (0,0))) (HO:Kd.R k87 87 w base ok (.slice (some ⟨gr,0,none⟩) n c) l) :
  Calls Tryd.prog 75 #[.int .i64 s,.pointer (some ⟨g,0,none⟩)] w fun e w'=>e=.returned (.tuple #[])∧Kd.R k87 87 w' base ok (.slice (some ⟨gr,0,none⟩) n c) (l.set s.toNat (loseS (rd_T87 l s)))∧w.grownBy w' (some gr):=by
 obtain ⟨x0,x1,x2,x3,x4,f0,f1,f2,f3,f4⟩:=sec_at HO s h0 h1
 have hc1:w.cell? ⟨g,1,none⟩=some (.slice (some ⟨gr,0,none⟩) n c):=(blk_cell hb 1).trans rfl
 have hs:decide (s ≥ 0)=true:=decide_eq_true (by omega)
 have H0:=Aside0.mk h0
 have H1:=Aside0.mk h1
 have hp0:=eq_true h0
 have hp1:=eq_true h1
 have ST:=Aside0.mk (SecSt.start HO H0.out H1.out)
 generalize hx:rd_T87 l s=x at x0 x1 x2 x3 x4 ST ⊢
 clear hx hb h0 h1 HO
 go_enter Tryd.func75,Tryd.ntmps75
 go_wp2
 go_end0
 exact ⟨rfl,SecSt.eq (ST.out.put2 H0.out H1.out rfl) rfl⟩
end Go.Proofs.YtpdnabhpkdchjaaDoor.P
