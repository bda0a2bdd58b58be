/- The statement FnExactReadEventsCardSaid holds of the given program, for every argument; there are no conditions. (Part 5 of 5.) -/
import Derived.Test.YtpdnabhpkdchjaaDoorBFnExactReadEvents4
import Derived.LaidMore
import Derived.Stop.LaidErr
import Derived.Lib.LaidTab
import Derived.Stop.Joined
import Derived.LaidLaws
import Derived.ChangeVars
import Derived.Test.YtpdnabhpkdchjaaDoorTie
import Derived.Test.YtpdnabhpkdchjaaDoorCards
import Derived.SevenTiedAt
import Derived.ChangeMaps5
import Derived.ShutString
namespace Go.Proofs.YtpdnabhpkdchjaaDoor.P
open Go.RowKit Go.Proofs.YtpdnabhpkdchjaaDoorW.PrintWords Go.Proofs.YtpdnabhpkdchjaaDoorW.PrintLast Go.Proofs.YtpdnabhpkdchjaaDoorW.PrintMore
attribute [local go_sem] max2_int min2_int max_two min_two max_three min_three max_four min_four
set_option linter.unusedVariables false
set_option linter.unusedSimpArgs false
noncomputable def laws_FnExactReadEvents.j0:Nat→ByteArray→Bool→Int→List (S100)→Int→Int→List (S52)→Int→Int→List (S52)→Option (Bool)
 | 0,_,_,_,_,_,_,_,_,_,_=>none
 | k+1,x1,x49,x272000,x272001,x283000,x283001,x283002,x294000,x294001,x294002=>if x49=true then (some false) else ((laws_markHeard.f k x294000 x294001 x294002 1).bind fun bt303=>((laws_heldHeard.f k x294000 x294001 bt303.2 1).bind fun t305=>(if t305<0 then (some false) else (if t305=bt303.1 then ((laws_toLayout.f k x272000 x272001).bind fun bt306=>((impl_ReadEvents.f bt306.1 bt306.2 x1).bind fun bt310=>((laws_eqHeard.f k bt310.1 bt310.2.1 bt310.2.2 x283000 x283001 x283002).bind fun t316=>(if t316=true then ((laws_heldHeard.f k x294000 x294001 bt303.2 1).bind fun t317=>(if t317<0 then (some false) else (if t317=bt303.1 then (some true) else (some false)))) else (some false))))) else (some false)))))
noncomputable def laws_FnExactReadEvents.f (k:Nat) (a0_0:Int) (l0_1:List (S100)) (a1:ByteArray):Option (Bool):=if (a1.size:Int) > 1048576 then (some true) else ((laws_szLayout.f a0_0 l0_1 1048576).bind fun t272=>(if t272<0 then (some true) else ((laws_toLayout.f k a0_0 l0_1).bind fun bt273=>((spec_ReadEvents.f k bt273.1 bt273.2 a1).bind fun bt277=>((laws_toLayout.f k a0_0 l0_1).bind fun bt283=>((impl_ReadEvents.f bt283.1 bt283.2 a1).bind fun bt288=>((laws_eqHeard.f k bt288.1 bt288.2.1 bt288.2.2 bt277.1 bt277.2.1 bt277.2.2).bind fun t294=>(if t294=true then ((laws_toLayout.f k a0_0 l0_1).bind fun bt295=>((laws_eqLayout.f k bt283.1 bt283.2 bt295.1 bt295.2).bind fun t299=>(if t299=true then ((laws_markLayout.f k bt283.1 bt283.2 1).bind fun bt300=>(if bt300.1<0 then (laws_FnExactReadEvents.j0 k a1 true a0_0 l0_1 bt277.1 bt277.2.1 bt277.2.2 bt288.1 bt288.2.1 bt288.2.2) else ((laws_eqHeard.f k bt288.1 bt288.2.1 bt288.2.2 bt277.1 bt277.2.1 bt277.2.2).bind fun t302=>(laws_FnExactReadEvents.j0 k a1 (!t302) a0_0 l0_1 bt277.1 bt277.2.1 bt277.2.2 bt288.1 bt288.2.1 bt288.2.2)))) else (some false)))) else (some false)))))))))
set_option maxHeartbeats 8000000 in
set_option maxRecDepth 100000 in
theorem laws_FnExactReadEvents.calls {T:Addr} {tc:Nat} (k:Nat) (a0_0:Int) (A0_1:Option Addr) (c0_1:Nat) (l0_1:List (S100)) (a1:ByteArray) (r:Bool) (w:World) (HT_:Aside0 (Tabs T tc w)) (hr0_1:Kd.C k100 w A0_1 l0_1.length l0_1) (hc0_1:l0_1.length≤c0_1) (HR_:Aside0 (r=true)) (h:laws_FnExactReadEvents.f k a0_0 l0_1 a1=some r) :
  Calls Tryd.prog 4 #[.agg #[.int .i64 a0_0,.slice A0_1 l0_1.length c0_1],.string a1] w fun e w'=>e=.returned (.bool r)∧Below w.heap.size w w':=by
 have hu24:=Tryd.underlying24
 have hu39:=Tryd.underlying39
 have hu31:=Tryd.underlying31
 have HR0_1:=Aside0.mk hr0_1
 have HC0_1:=Aside0.mk hc0_1
 clear hr0_1 hc0_1
 have HB:=Aside0.mk (Below.refl w.heap.size w)
 have H:(if (a1.size:Int) > 1048576 then (some true) else ((laws_szLayout.f a0_0 l0_1 1048576).bind fun t272=>(if t272<0 then (some true) else ((laws_toLayout.f k a0_0 l0_1).bind fun bt273=>((spec_ReadEvents.f k bt273.1 bt273.2 a1).bind fun bt277=>((laws_toLayout.f k a0_0 l0_1).bind fun bt283=>((impl_ReadEvents.f bt283.1 bt283.2 a1).bind fun bt288=>((laws_eqHeard.f k bt288.1 bt288.2.1 bt288.2.2 bt277.1 bt277.2.1 bt277.2.2).bind fun t294=>(if t294=true then ((laws_toLayout.f k a0_0 l0_1).bind fun bt295=>((laws_eqLayout.f k bt283.1 bt283.2 bt295.1 bt295.2).bind fun t299=>(if t299=true then ((laws_markLayout.f k bt283.1 bt283.2 1).bind fun bt300=>(if bt300.1<0 then (laws_FnExactReadEvents.j0 k a1 true a0_0 l0_1 bt277.1 bt277.2.1 bt277.2.2 bt288.1 bt288.2.1 bt288.2.2) else ((laws_eqHeard.f k bt288.1 bt288.2.1 bt288.2.2 bt277.1 bt277.2.1 bt277.2.2).bind fun t302=>(laws_FnExactReadEvents.j0 k a1 (!t302) a0_0 l0_1 bt277.1 bt277.2.1 bt277.2.2 bt288.1 bt288.2.1 bt288.2.2)))) else (some false)))) else (some false))))))))))=some r:=h
 clear h
 by_cases c3:(a1.size:Int) > 1048576
 ·rw [if_pos c3] at H
  have c3b0:decide (1048576<(a1.size:Int))=true:=decide_eq_true c3
  have c3b1:decide (1048576<a1.size)=true:=decide_eq_true (by omega)
  clear c3
  obtain rfl:=Option.some.inj H
  go_enter Tryd.func4,Tryd.ntmps4
  go_wp2_with (first|((with_reducible refine gate_dst (N:=2) rfl ?_);refine box_event ?hg (N:=2) ?hd (cs:=#[.int .i64 a0_0,.slice A0_1 l0_1.length c0_1]) (t:=24) ?hr ?_;(case hd=>rfl);(case hg=>rfl);(case hr=>first|(go_simp;done)|(go_simp;rfl));intro gb271 hg w4 hbox hb;have n0_:=Aside0.mk (below_step (by repeat (first|(with_reducible first|exact HB.out|apply below_alloc|apply pw_below_drewN|apply below_drew1)|exact HB.out)) hb);have n1_:=Aside0.mk (hbox);have n2_:=Aside0.mk ((by rw [hg];exact (below_size (by repeat (first|(with_reducible first|exact HB.out|apply below_alloc|apply pw_below_drewN|apply below_drew1)|exact HB.out))):w.heap.size≤gb271));have n3_:=Aside0.mk ((by rw [hg];exact (below_size (by repeat (first|(with_reducible first|exact HB.out|apply below_alloc|apply pw_below_drewN|apply below_drew1)|exact HB.out))):w.heap.size≤gb271));clear HB;have HB:=n0_;have BK271:=n1_;have GW271:=n2_;have GE271:=n3_;clear n0_ n1_ n2_ n3_;clear hb hbox hg))
  go_ret
  exact ⟨by first|rfl|(simp [errW_none,errW_some] <;> rfl)|(simp [*,errW_none,errW_some] <;> rfl),by repeat (first|(with_reducible first|exact HB.out|apply below_alloc|apply pw_below_drewN|apply below_drew1|refine below_set ?_ GE271.out)|exact HB.out)⟩
 rw [if_neg c3] at H
 have c3b0:decide (1048576<(a1.size:Int))=false:=decide_eq_false c3
 have c3b1:decide (1048576<a1.size)=false:=decide_eq_false (by omega)
 clear c3
 replace H:=Option.bind_eq_some_iff.mp H
 obtain ⟨t272,A50,H⟩:=H
 replace H:(if t272<0 then (some true) else ((laws_toLayout.f k a0_0 l0_1).bind fun bt273=>((spec_ReadEvents.f k bt273.1 bt273.2 a1).bind fun bt277=>((laws_toLayout.f k a0_0 l0_1).bind fun bt283=>((impl_ReadEvents.f bt283.1 bt283.2 a1).bind fun bt288=>((laws_eqHeard.f k bt288.1 bt288.2.1 bt288.2.2 bt277.1 bt277.2.1 bt277.2.2).bind fun t294=>(if t294=true then ((laws_toLayout.f k a0_0 l0_1).bind fun bt295=>((laws_eqLayout.f k bt283.1 bt283.2 bt295.1 bt295.2).bind fun t299=>(if t299=true then ((laws_markLayout.f k bt283.1 bt283.2 1).bind fun bt300=>(if bt300.1<0 then (laws_FnExactReadEvents.j0 k a1 true a0_0 l0_1 bt277.1 bt277.2.1 bt277.2.2 bt288.1 bt288.2.1 bt288.2.2) else ((laws_eqHeard.f k bt288.1 bt288.2.1 bt288.2.2 bt277.1 bt277.2.1 bt277.2.2).bind fun t302=>(laws_FnExactReadEvents.j0 k a1 (!t302) a0_0 l0_1 bt277.1 bt277.2.1 bt277.2.2 bt288.1 bt288.2.1 bt288.2.2)))) else (some false)))) else (some false))))))))=some r:=H
 have A5:=Aside0.mk A50
 clear A50
 by_cases c6:t272<0
 ·rw [if_pos c6] at H
  have c6b0:decide (t272<0)=true:=decide_eq_true c6
  clear c6
  obtain rfl:=Option.some.inj H
  go_enter Tryd.func4,Tryd.ntmps4
  go_wp2_with (first|((with_reducible refine gate_dst (N:=2) rfl ?_);refine box_event ?hg (N:=2) ?hd (cs:=#[.int .i64 a0_0,.slice A0_1 l0_1.length c0_1]) (t:=24) ?hr ?_;(case hd=>rfl);(case hg=>rfl);(case hr=>first|(go_simp;done)|(go_simp;rfl));intro gb271 hg w7 hbox hb;have n0_:=Aside0.mk (below_step (by repeat (first|(with_reducible first|exact HB.out|apply below_alloc|apply pw_below_drewN|apply below_drew1)|exact HB.out)) hb);have n1_:=Aside0.mk (hbox);have n2_:=Aside0.mk ((by rw [hg];exact (below_size (by repeat (first|(with_reducible first|exact HB.out|apply below_alloc|apply pw_below_drewN|apply below_drew1)|exact HB.out))):w.heap.size≤gb271));have n3_:=Aside0.mk ((by rw [hg];exact (below_size (by repeat (first|(with_reducible first|exact HB.out|apply below_alloc|apply pw_below_drewN|apply below_drew1)|exact HB.out))):w.heap.size≤gb271));clear HB;have HB:=n0_;have BK271:=n1_;have GW271:=n2_;have GE271:=n3_;clear n0_ n1_ n2_ n3_;clear hb hbox hg;have hcz8_0:w7.cell? ⟨gb271,0,none⟩=some (.int .i64 a0_0):=(blk_cell BK271.out 0).trans rfl;have hcz8_1:w7.cell? ⟨gb271,1,none⟩=some (.slice A0_1 l0_1.length c0_1):=(blk_cell BK271.out 1).trans rfl;have hfz8_0:=blk_frozen BK271.out 0;have hfz8_1:=blk_frozen BK271.out 1)|((with_reducible refine gate_callee (f:=7) rfl ?_);refine goesL_ (some 18) rfl rfl Tryd.func7 (by kernel_rfl) rfl #[.agg #[.int .i64 a0_0,.slice A0_1 l0_1.length c0_1],.int .i64 1048576] rfl (by (try simp only [List.map_toArray,List.map_cons,List.map_nil]);first|done|rfl|(simp only [List.length_drop,List.length_take];rfl)) ?_;(with_reducible refine (laws_szLayout.calls a0_0 _ _ l0_1 1048576 t272 _ ?side1 ?side2 A5.out).mono ?_);(case side1=>repeat (first|exact (Kd.C_below HR0_1.out HB.out)|(with_reducible refine Kd.C_alloc ?_ _)|(with_reducible refine Kd.C_drewN ?_ _)|(with_reducible refine Kd.C_drew ?_)));(case side2=>exact HC0_1.out);rintro e w9 ⟨rfl,hb⟩;refine ⟨_,rfl,?_⟩;have n0_:=Aside0.mk (blk_below (g:=gb271) (o:=.cells #[.int .i64 a0_0,.slice A0_1 l0_1.length c0_1] 24 (0,0)) (by (with_reducible repeat (first|refine blk_drewN ?_ _|refine blk_drew ?_|refine blk_alloc ?_ _));exact BK271.out) hb);have n1_:=Aside0.mk (below_step (by repeat (first|(with_reducible first|exact HB.out|apply below_alloc|apply pw_below_drewN|apply below_drew1|refine below_set ?_ GE271.out)|exact HB.out)) hb);clear BK271;clear HB;have BK271:=n0_;have HB:=n1_;clear n0_ n1_;(try clear hb);(try clear hb2);(try clear hk);(try clear hi)))
  go_ret
  exact ⟨by first|rfl|(simp [errW_none,errW_some] <;> rfl)|(simp [*,errW_none,errW_some] <;> rfl),by repeat (first|(with_reducible first|exact HB.out|apply below_alloc|apply pw_below_drewN|apply below_drew1|refine below_set ?_ GE271.out)|exact HB.out)⟩
 rw [if_neg c6] at H
 have c6b0:decide (t272<0)=false:=decide_eq_false c6
 clear c6
 replace H:=Option.bind_eq_some_iff.mp H
 obtain ⟨⟨t273,t274⟩,A100,H⟩:=H
 replace H:((spec_ReadEvents.f k t273 t274 a1).bind fun bt277=>((laws_toLayout.f k a0_0 l0_1).bind fun bt283=>((impl_ReadEvents.f bt283.1 bt283.2 a1).bind fun bt288=>((laws_eqHeard.f k bt288.1 bt288.2.1 bt288.2.2 bt277.1 bt277.2.1 bt277.2.2).bind fun t294=>(if t294=true then ((laws_toLayout.f k a0_0 l0_1).bind fun bt295=>((laws_eqLayout.f k bt283.1 bt283.2 bt295.1 bt295.2).bind fun t299=>(if t299=true then ((laws_markLayout.f k bt283.1 bt283.2 1).bind fun bt300=>(if bt300.1<0 then (laws_FnExactReadEvents.j0 k a1 true a0_0 l0_1 bt277.1 bt277.2.1 bt277.2.2 bt288.1 bt288.2.1 bt288.2.2) else ((laws_eqHeard.f k bt288.1 bt288.2.1 bt288.2.2 bt277.1 bt277.2.1 bt277.2.2).bind fun t302=>(laws_FnExactReadEvents.j0 k a1 (!t302) a0_0 l0_1 bt277.1 bt277.2.1 bt277.2.2 bt288.1 bt288.2.1 bt288.2.2)))) else (some false)))) else (some false))))))=some r:=H
 have A10:=Aside0.mk A100
 clear A100
 replace H:=Option.bind_eq_some_iff.mp H
 obtain ⟨⟨t277,t278,t279⟩,A110,H⟩:=H
 replace H:((laws_toLayout.f k a0_0 l0_1).bind fun bt283=>((impl_ReadEvents.f bt283.1 bt283.2 a1).bind fun bt288=>((laws_eqHeard.f k bt288.1 bt288.2.1 bt288.2.2 t277 t278 t279).bind fun t294=>(if t294=true then ((laws_toLayout.f k a0_0 l0_1).bind fun bt295=>((laws_eqLayout.f k bt283.1 bt283.2 bt295.1 bt295.2).bind fun t299=>(if t299=true then ((laws_markLayout.f k bt283.1 bt283.2 1).bind fun bt300=>(if bt300.1<0 then (laws_FnExactReadEvents.j0 k a1 true a0_0 l0_1 t277 t278 t279 bt288.1 bt288.2.1 bt288.2.2) else ((laws_eqHeard.f k bt288.1 bt288.2.1 bt288.2.2 t277 t278 t279).bind fun t302=>(laws_FnExactReadEvents.j0 k a1 (!t302) a0_0 l0_1 t277 t278 t279 bt288.1 bt288.2.1 bt288.2.2)))) else (some false)))) else (some false)))))=some r:=H
 have A11:=Aside0.mk A110
 clear A110
 replace H:=Option.bind_eq_some_iff.mp H
 obtain ⟨⟨t283,t284⟩,A120,H⟩:=H
 replace H:((impl_ReadEvents.f t283 t284 a1).bind fun bt288=>((laws_eqHeard.f k bt288.1 bt288.2.1 bt288.2.2 t277 t278 t279).bind fun t294=>(if t294=true then ((laws_toLayout.f k a0_0 l0_1).bind fun bt295=>((laws_eqLayout.f k t283 t284 bt295.1 bt295.2).bind fun t299=>(if t299=true then ((laws_markLayout.f k t283 t284 1).bind fun bt300=>(if bt300.1<0 then (laws_FnExactReadEvents.j0 k a1 true a0_0 l0_1 t277 t278 t279 bt288.1 bt288.2.1 bt288.2.2) else ((laws_eqHeard.f k bt288.1 bt288.2.1 bt288.2.2 t277 t278 t279).bind fun t302=>(laws_FnExactReadEvents.j0 k a1 (!t302) a0_0 l0_1 t277 t278 t279 bt288.1 bt288.2.1 bt288.2.2)))) else (some false)))) else (some false))))=some r:=H
 have A12:=Aside0.mk A120
 clear A120
 replace H:=Option.bind_eq_some_iff.mp H
 obtain ⟨⟨t288,t289,t290⟩,A130,H⟩:=H
 replace H:((laws_eqHeard.f k t288 t289 t290 t277 t278 t279).bind fun t294=>(if t294=true then ((laws_toLayout.f k a0_0 l0_1).bind fun bt295=>((laws_eqLayout.f k t283 t284 bt295.1 bt295.2).bind fun t299=>(if t299=true then ((laws_markLayout.f k t283 t284 1).bind fun bt300=>(if bt300.1<0 then (laws_FnExactReadEvents.j0 k a1 true a0_0 l0_1 t277 t278 t279 t288 t289 t290) else ((laws_eqHeard.f k t288 t289 t290 t277 t278 t279).bind fun t302=>(laws_FnExactReadEvents.j0 k a1 (!t302) a0_0 l0_1 t277 t278 t279 t288 t289 t290)))) else (some false)))) else (some false)))=some r:=H
 have A13:=Aside0.mk A130
 clear A130
 replace H:=Option.bind_eq_some_iff.mp H
 obtain ⟨t294,A140,H⟩:=H
 replace H:(if t294=true then ((laws_toLayout.f k a0_0 l0_1).bind fun bt295=>((laws_eqLayout.f k t283 t284 bt295.1 bt295.2).bind fun t299=>(if t299=true then ((laws_markLayout.f k t283 t284 1).bind fun bt300=>(if bt300.1<0 then (laws_FnExactReadEvents.j0 k a1 true a0_0 l0_1 t277 t278 t279 t288 t289 t290) else ((laws_eqHeard.f k t288 t289 t290 t277 t278 t279).bind fun t302=>(laws_FnExactReadEvents.j0 k a1 (!t302) a0_0 l0_1 t277 t278 t279 t288 t289 t290)))) else (some false)))) else (some false))=some r:=H
 have A14:=Aside0.mk A140
 clear A140
 by_cases c15:t294=true
 ·subst c15
  have H1:((laws_toLayout.f k a0_0 l0_1).bind fun bt295=>((laws_eqLayout.f k t283 t284 bt295.1 bt295.2).bind fun t299=>(if t299=true then ((laws_markLayout.f k t283 t284 1).bind fun bt300=>(if bt300.1<0 then (laws_FnExactReadEvents.j0 k a1 true a0_0 l0_1 t277 t278 t279 t288 t289 t290) else ((laws_eqHeard.f k t288 t289 t290 t277 t278 t279).bind fun t302=>(laws_FnExactReadEvents.j0 k a1 (!t302) a0_0 l0_1 t277 t278 t279 t288 t289 t290)))) else (some false))))=some r:=by rw [if_pos rfl] at H;exact H
  clear H
  have H:=H1
  clear H1
  replace H:=Option.bind_eq_some_iff.mp H
  obtain ⟨⟨t295,t296⟩,A160,H⟩:=H
  replace H:((laws_eqLayout.f k t283 t284 t295 t296).bind fun t299=>(if t299=true then ((laws_markLayout.f k t283 t284 1).bind fun bt300=>(if bt300.1<0 then (laws_FnExactReadEvents.j0 k a1 true a0_0 l0_1 t277 t278 t279 t288 t289 t290) else ((laws_eqHeard.f k t288 t289 t290 t277 t278 t279).bind fun t302=>(laws_FnExactReadEvents.j0 k a1 (!t302) a0_0 l0_1 t277 t278 t279 t288 t289 t290)))) else (some false)))=some r:=H
  have A16:=Aside0.mk A160
  clear A160
  replace H:=Option.bind_eq_some_iff.mp H
  obtain ⟨t299,A170,H⟩:=H
  replace H:(if t299=true then ((laws_markLayout.f k t283 t284 1).bind fun bt300=>(if bt300.1<0 then (laws_FnExactReadEvents.j0 k a1 true a0_0 l0_1 t277 t278 t279 t288 t289 t290) else ((laws_eqHeard.f k t288 t289 t290 t277 t278 t279).bind fun t302=>(laws_FnExactReadEvents.j0 k a1 (!t302) a0_0 l0_1 t277 t278 t279 t288 t289 t290)))) else (some false))=some r:=H
  have A17:=Aside0.mk A170
  clear A170
  by_cases c18:t299=true
  ·subst c18
   have H1:((laws_markLayout.f k t283 t284 1).bind fun bt300=>(if bt300.1<0 then (laws_FnExactReadEvents.j0 k a1 true a0_0 l0_1 t277 t278 t279 t288 t289 t290) else ((laws_eqHeard.f k t288 t289 t290 t277 t278 t279).bind fun t302=>(laws_FnExactReadEvents.j0 k a1 (!t302) a0_0 l0_1 t277 t278 t279 t288 t289 t290))))=some r:=by rw [if_pos rfl] at H;exact H
   clear H
   have H:=H1
   clear H1
   replace H:=Option.bind_eq_some_iff.mp H
   obtain ⟨⟨t300,t301⟩,A190,H⟩:=H
   replace H:(if t300<0 then (laws_FnExactReadEvents.j0 k a1 true a0_0 l0_1 t277 t278 t279 t288 t289 t290) else ((laws_eqHeard.f k t288 t289 t290 t277 t278 t279).bind fun t302=>(laws_FnExactReadEvents.j0 k a1 (!t302) a0_0 l0_1 t277 t278 t279 t288 t289 t290)))=some r:=H
   have A19:=Aside0.mk A190
   clear A190
   have HC20:=Aside0.mk H
   clear H
   go_enter Tryd.func4,Tryd.ntmps4
   try go_wp2_with (first|((with_reducible refine gate_dst (N:=2) rfl ?_);refine box_event ?hg (N:=2) ?hd (cs:=#[.int .i64 a0_0,.slice A0_1 l0_1.length c0_1]) (t:=24) ?hr ?_;(case hd=>rfl);(case hg=>rfl);(case hr=>first|(go_simp;done)|(go_simp;rfl));intro gb271 hg w21 hbox hb;have n0_:=Aside0.mk (below_step (by repeat (first|(with_reducible first|exact HB.out|apply below_alloc|apply pw_below_drewN|apply below_drew1)|exact HB.out)) hb);have n1_:=Aside0.mk (hbox);have n2_:=Aside0.mk ((by rw [hg];exact (below_size (by repeat (first|(with_reducible first|exact HB.out|apply below_alloc|apply pw_below_drewN|apply below_drew1)|exact HB.out))):w.heap.size≤gb271));have n3_:=Aside0.mk ((by rw [hg];exact (below_size (by repeat (first|(with_reducible first|exact HB.out|apply below_alloc|apply pw_below_drewN|apply below_drew1)|exact HB.out))):w.heap.size≤gb271));clear HB;have HB:=n0_;have BK271:=n1_;have GW271:=n2_;have GE271:=n3_;clear n0_ n1_ n2_ n3_;clear hb hbox hg;have hcz22_0:w21.cell? ⟨gb271,0,none⟩=some (.int .i64 a0_0):=(blk_cell BK271.out 0).trans rfl;have hcz22_1:w21.cell? ⟨gb271,1,none⟩=some (.slice A0_1 l0_1.length c0_1):=(blk_cell BK271.out 1).trans rfl;have hfz22_0:=blk_frozen BK271.out 0;have hfz22_1:=blk_frozen BK271.out 1)|((with_reducible refine gate_callee (f:=7) rfl ?_);refine goesL_ (some 18) rfl rfl Tryd.func7 (by kernel_rfl) rfl #[.agg #[.int .i64 a0_0,.slice A0_1 l0_1.length c0_1],.int .i64 1048576] rfl (by (try simp only [List.map_toArray,List.map_cons,List.map_nil]);first|done|rfl|(simp only [List.length_drop,List.length_take];rfl)) ?_;(with_reducible refine (laws_szLayout.calls a0_0 _ _ l0_1 1048576 t272 _ ?side1 ?side2 A5.out).mono ?_);(case side1=>repeat (first|exact (Kd.C_below HR0_1.out HB.out)|(with_reducible refine Kd.C_alloc ?_ _)|(with_reducible refine Kd.C_drewN ?_ _)|(with_reducible refine Kd.C_drew ?_)));(case side2=>exact HC0_1.out);rintro e w23 ⟨rfl,hb⟩;refine ⟨_,rfl,?_⟩;have n0_:=Aside0.mk (blk_below (g:=gb271) (o:=.cells #[.int .i64 a0_0,.slice A0_1 l0_1.length c0_1] 24 (0,0)) (by (with_reducible repeat (first|refine blk_drewN ?_ _|refine blk_drew ?_|refine blk_alloc ?_ _));exact BK271.out) hb);have n1_:=Aside0.mk (below_step (by repeat (first|(with_reducible first|exact HB.out|apply below_alloc|apply pw_below_drewN|apply below_drew1|refine below_set ?_ GE271.out)|exact HB.out)) hb);clear BK271;clear HB;have BK271:=n0_;have HB:=n1_;clear n0_ n1_;(try clear hb);(try clear hb2);(try clear hk);(try clear hi);have hcz24_0:w23.cell? ⟨gb271,0,none⟩=some (.int .i64 a0_0):=(blk_cell BK271.out 0).trans rfl;have hcz24_1:w23.cell? ⟨gb271,1,none⟩=some (.slice A0_1 l0_1.length c0_1):=(blk_cell BK271.out 1).trans rfl;have hfz24_0:=blk_frozen BK271.out 0;have hfz24_1:=blk_frozen BK271.out 1)|((with_reducible refine gate_callee (f:=10) rfl ?_);refine goesL_ (some 22) rfl rfl Tryd.func10 (by kernel_rfl) rfl #[.agg #[.int .i64 a0_0,.slice A0_1 l0_1.length c0_1]] rfl (by (try simp only [List.map_toArray,List.map_cons,List.map_nil]);first|done|rfl|(simp only [List.length_drop,List.length_take];rfl)) ?_;(with_reducible refine (laws_toLayout.calls k a0_0 _ _ l0_1 t273 t274 _ ?side1 ?side2 A10.out).mono ?_);(case side1=>repeat (first|exact (Kd.C_below HR0_1.out HB.out)|(with_reducible refine Kd.C_alloc ?_ _)|(with_reducible refine Kd.C_drewN ?_ _)|(with_reducible refine Kd.C_drew ?_)));(case side2=>exact HC0_1.out);rintro e w25 ⟨v275,rfl,ho0,hb⟩;refine ⟨_,rfl,?_⟩;have n0_:=Aside0.mk (Kd.R_lower ho0 (below_size (by repeat (first|(with_reducible first|exact HB.out|apply below_alloc|apply pw_below_drewN|apply below_drew1|refine below_set ?_ GE271.out)|exact HB.out))));have n1_:=Aside0.mk (blk_below (g:=gb271) (o:=.cells #[.int .i64 a0_0,.slice A0_1 l0_1.length c0_1] 24 (0,0)) (by (with_reducible repeat (first|refine blk_drewN ?_ _|refine blk_drew ?_|refine blk_alloc ?_ _));exact BK271.out) hb);have n2_:=Aside0.mk (below_step (by repeat (first|(with_reducible first|exact HB.out|apply below_alloc|apply pw_below_drewN|apply below_drew1|refine below_set ?_ GE271.out)|exact HB.out)) hb);clear BK271;clear HB;have HO276:=n0_;have BK271:=n1_;have HB:=n2_;clear n0_ n1_ n2_;(try clear hb);(try clear hb2);(try clear hk);(try clear hi);(try clear ho0);obtain ⟨Ao26,co26,eo26⟩:=Kd.R_slice HO276.out;subst eo26)|((with_reducible refine gate_callee (f:=15) rfl ?_);refine goesL_ (some 24) rfl rfl Tryd.func15 (by kernel_rfl) rfl #[.agg #[.int .i64 t273,.slice Ao26 t274.length co26],.string a1] rfl (by (try simp only [List.map_toArray,List.map_cons,List.map_nil]);first|done|rfl|(simp only [List.length_drop,List.length_take];rfl)) ?_;(with_reducible refine (spec_ReadEvents.calls k t273 _ _ t274 a1 t277 t278 t279 _ ?side1 ?side2 A11.out).mono ?_);(case side1=>repeat (first|exact (Kd.R_reads' HO276.out).2.2|(with_reducible refine Kd.C_alloc ?_ _)|(with_reducible refine Kd.C_drewN ?_ _)|(with_reducible refine Kd.C_drew ?_)));(case side2=>exact (Kd.R_reads' HO276.out).2.1);rintro e w27 ⟨v280,rfl,ho0,hb⟩;refine ⟨_,rfl,?_⟩;have n0_:=Aside0.mk (Kd.R_below (by (with_reducible repeat (first|apply Kd.R_alloc|apply Kd.R_drewN|apply Kd.R_drew));exact HO276.out) hb);have n1_:=Aside0.mk (Kd.R_lower ho0 (below_size (by repeat (first|(with_reducible first|exact HB.out|apply below_alloc|apply pw_below_drewN|apply below_drew1|refine below_set ?_ GE271.out)|exact HB.out))));have n2_:=Aside0.mk (blk_below (g:=gb271) (o:=.cells #[.int .i64 a0_0,.slice A0_1 l0_1.length c0_1] 24 (0,0)) (by (with_reducible repeat (first|refine blk_drewN ?_ _|refine blk_drew ?_|refine blk_alloc ?_ _));exact BK271.out) hb);have n3_:=Aside0.mk (below_step (by repeat (first|(with_reducible first|exact HB.out|apply below_alloc|apply pw_below_drewN|apply below_drew1|refine below_set ?_ GE271.out)|exact HB.out)) hb);clear HO276;clear BK271;clear HB;have HO276:=n0_;have HO281:=n1_;have BK271:=n2_;have HB:=n3_;clear n0_ n1_ n2_ n3_;(try clear hb);(try clear hb2);(try clear hk);(try clear hi);(try clear ho0))|((with_reducible refine gate_dst (N:=6) rfl ?_);refine box_event ?hg (N:=6) ?hd (cs:=#[.int .i64 0,.int .i64 0,.slice none 0 0]) (t:=39) ?hr ?_;(case hd=>rfl);(case hg=>rfl);(case hr=>first|(go_simp;done)|(go_simp;rfl));intro gb282 hg w28 hbox hb;have n0_:=Aside0.mk (Kd.R_below (by (with_reducible repeat (first|apply Kd.R_alloc|apply Kd.R_drewN|apply Kd.R_drew));exact HO276.out) hb);have n1_:=Aside0.mk (Kd.R_below (by (with_reducible repeat (first|apply Kd.R_alloc|apply Kd.R_drewN|apply Kd.R_drew));exact HO281.out) hb);have n2_:=Aside0.mk (blk_below (g:=gb271) (o:=.cells #[.int .i64 a0_0,.slice A0_1 l0_1.length c0_1] 24 (0,0)) (by (with_reducible repeat (first|refine blk_drewN ?_ _|refine blk_drew ?_|refine blk_alloc ?_ _));exact BK271.out) hb);have n3_:=Aside0.mk (below_step (by repeat (first|(with_reducible first|exact HB.out|apply below_alloc|apply pw_below_drewN|apply below_drew1|refine below_set ?_ GE271.out)|exact HB.out)) hb);have n4_:=Aside0.mk (hbox);have n5_:=Aside0.mk ((by rw [hg];exact (below_size (by repeat (first|(with_reducible first|exact HB.out|apply below_alloc|apply pw_below_drewN|apply below_drew1|refine below_set ?_ GE271.out)|exact HB.out))):w.heap.size≤gb282));have n6_:=Aside0.mk ((by rw [hg];exact (below_size (by repeat (first|(with_reducible first|exact HB.out|apply below_alloc|apply pw_below_drewN|apply below_drew1|refine below_set ?_ GE271.out)|exact HB.out))):w.heap.size≤gb282));have n7_:=Aside0.mk ((by rw [hg];exact Nat.ne_of_lt (blk_lt (g:=gb271) (o:=.cells #[.int .i64 a0_0,.slice A0_1 l0_1.length c0_1] 24 (0,0)) (by (with_reducible repeat (first|refine blk_drewN ?_ _|refine blk_drew ?_|refine blk_alloc ?_ _));exact BK271.out)):gb271 ≠ gb282));have n8_:=Aside0.mk ((by rw [hg];exact Nat.ne_of_gt (blk_lt (g:=gb271) (o:=.cells #[.int .i64 a0_0,.slice A0_1 l0_1.length c0_1] 24 (0,0)) (by (with_reducible repeat (first|refine blk_drewN ?_ _|refine blk_drew ?_|refine blk_alloc ?_ _));exact BK271.out)):gb282 ≠ gb271));clear HO276;clear HO281;clear BK271;clear HB;have HO276:=n0_;have HO281:=n1_;have BK271:=n2_;have HB:=n3_;have BK282:=n4_;have GW282:=n5_;have GE282:=n6_;have NB271_282:=n7_;have NB282_271:=n8_;clear n0_ n1_ n2_ n3_ n4_ n5_ n6_ n7_ n8_;clear hb hbox hg;have hnb29:=NB282_271.out;have hnc29:=NB271_282.out;have hcz30_0:w28.cell? ⟨gb282,0,none⟩=some (.int .i64 0):=(blk_cell BK282.out 0).trans rfl;have hcz30_1:w28.cell? ⟨gb282,1,none⟩=some (.int .i64 0):=(blk_cell BK282.out 1).trans rfl;have hcz30_2:w28.cell? ⟨gb282,2,none⟩=some (.slice none 0 0):=(blk_cell BK282.out 2).trans rfl;have hfz30_0:=blk_frozen BK282.out 0;have hfz30_1:=blk_frozen BK282.out 1;have hfz30_2:=blk_frozen BK282.out 2;obtain ⟨Ao31,co31,eo31⟩:=Kd.R_slice HO281.out;subst eo31;have hcz32_0:w28.cell? ⟨gb271,0,none⟩=some (.int .i64 a0_0):=(blk_cell BK271.out 0).trans rfl;have hcz32_1:w28.cell? ⟨gb271,1,none⟩=some (.slice A0_1 l0_1.length c0_1):=(blk_cell BK271.out 1).trans rfl;have hfz32_0:=blk_frozen BK271.out 0;have hfz32_1:=blk_frozen BK271.out 1)|((with_reducible refine gate_callee (f:=10) rfl ?_);refine goesL_ (some 26) rfl rfl Tryd.func10 (by kernel_rfl) rfl #[.agg #[.int .i64 a0_0,.slice A0_1 l0_1.length c0_1]] rfl (by (try simp only [List.map_toArray,List.map_cons,List.map_nil]);first|done|rfl|(simp only [List.length_drop,List.length_take];rfl)) ?_;(with_reducible refine (laws_toLayout.calls k a0_0 _ _ l0_1 t283 t284 _ ?side1 ?side2 A12.out).mono ?_);(case side1=>exact Kd.C_below HR0_1.out (by repeat (first|(with_reducible first|exact HB.out|apply below_alloc|apply pw_below_drewN|apply below_drew1|refine below_set ?_ GE271.out|refine below_set ?_ GE282.out)|exact HB.out)));(case side2=>exact HC0_1.out);rintro e w33 ⟨v285,rfl,ho0,hb⟩;refine ⟨_,rfl,?_⟩;have n0_:=Aside0.mk (Kd.R_elder' (by (with_reducible repeat (first|apply Kd.R_alloc|apply Kd.R_drewN|apply Kd.R_drew));exact (Kd.R_mono (Kd.R_far (p:=⟨gb282,2,none⟩) (Kd.R_far (p:=⟨gb282,1,none⟩) (Kd.R_far (p:=⟨gb282,0,none⟩) (Kd.R_types HO276.out BK282.out (by decide)) (fun _ hk=>hk.2) (.int .i64 t277)) (fun _ hk=>hk.2) (.int .i64 t278)) (fun _ hk=>hk.2) (.slice Ao31 t279.length co31)) (fun _ h_=>h_.1))) (Kd.R_base ho0) hb);have n1_:=Aside0.mk (Kd.R_below (by (with_reducible repeat (first|apply Kd.R_alloc|apply Kd.R_drewN|apply Kd.R_drew));exact (Kd.R_mono (Kd.R_far (p:=⟨gb282,2,none⟩) (Kd.R_far (p:=⟨gb282,1,none⟩) (Kd.R_far (p:=⟨gb282,0,none⟩) (Kd.R_types HO281.out BK282.out (by decide)) (fun _ hk=>hk.2) (.int .i64 t277)) (fun _ hk=>hk.2) (.int .i64 t278)) (fun _ hk=>hk.2) (.slice Ao31 t279.length co31)) (fun _ h_=>h_.1))) hb);have n2_:=Aside0.mk (Kd.R_lower (Kd.R_new' ho0 (Kd.R_lt (by (with_reducible repeat (first|apply Kd.R_alloc|apply Kd.R_drewN|apply Kd.R_drew));exact (Kd.R_mono (Kd.R_far (p:=⟨gb282,2,none⟩) (Kd.R_far (p:=⟨gb282,1,none⟩) (Kd.R_far (p:=⟨gb282,0,none⟩) (Kd.R_types HO276.out BK282.out (by decide)) (fun _ hk=>hk.2) (.int .i64 t277)) (fun _ hk=>hk.2) (.int .i64 t278)) (fun _ hk=>hk.2) (.slice Ao31 t279.length co31)) (fun _ h_=>h_.1))))) (below_size (by repeat (first|(with_reducible first|exact HB.out|apply below_alloc|apply pw_below_drewN|apply below_drew1|refine below_set ?_ GE271.out|refine below_set ?_ GE282.out)|exact HB.out))));have n3_:=Aside0.mk (blk_below (g:=gb271) (o:=.cells #[.int .i64 a0_0,.slice A0_1 l0_1.length c0_1] 24 (0,0)) (by (with_reducible repeat (first|refine blk_drewN ?_ _|refine blk_drew ?_|refine blk_alloc ?_ _));refine blk_far ?_ NB271_282.out _;(with_reducible repeat (first|refine blk_drewN ?_ _|refine blk_drew ?_|refine blk_alloc ?_ _));refine blk_far ?_ NB271_282.out _;(with_reducible repeat (first|refine blk_drewN ?_ _|refine blk_drew ?_|refine blk_alloc ?_ _));refine blk_far ?_ NB271_282.out _;(with_reducible repeat (first|refine blk_drewN ?_ _|refine blk_drew ?_|refine blk_alloc ?_ _));exact BK271.out) hb);have n4_:=Aside0.mk (blk_below (g:=gb282) (o:=.cells #[.int .i64 t277,.int .i64 t278,.slice Ao31 t279.length co31] 39 (0,0)) (by (with_reducible repeat (first|refine blk_drewN ?_ _|refine blk_drew ?_|refine blk_alloc ?_ _));refine blk_put (cs:=#[.int .i64 t277,.int .i64 t278,.slice none 0 0]) ?_ 2 _ rfl;(with_reducible repeat (first|refine blk_drewN ?_ _|refine blk_drew ?_|refine blk_alloc ?_ _));refine blk_put (cs:=#[.int .i64 t277,.int .i64 0,.slice none 0 0]) ?_ 1 _ rfl;(with_reducible repeat (first|refine blk_drewN ?_ _|refine blk_drew ?_|refine blk_alloc ?_ _));refine blk_put (cs:=#[.int .i64 0,.int .i64 0,.slice none 0 0]) ?_ 0 _ rfl;(with_reducible repeat (first|refine blk_drewN ?_ _|refine blk_drew ?_|refine blk_alloc ?_ _));exact BK282.out) hb);have n5_:=Aside0.mk (below_step (by repeat (first|(with_reducible first|exact HB.out|apply below_alloc|apply pw_below_drewN|apply below_drew1|refine below_set ?_ GE271.out|refine below_set ?_ GE282.out)|exact HB.out)) hb);clear HO276;clear HO281;clear BK271;clear BK282;clear HB;have HO276:=n0_;have HO281:=n1_;have HO286:=n2_;have BK271:=n3_;have BK282:=n4_;have HB:=n5_;clear n0_ n1_ n2_ n3_ n4_ n5_;(try clear hb);(try clear hb2);(try clear hk);(try clear hi);(try clear ho0))|((with_reducible refine gate_dst (N:=7) rfl ?_);refine box_event ?hg (N:=7) ?hd (cs:=#[.int .i64 0,.slice none 0 0]) (t:=31) ?hr ?_;(case hd=>rfl);(case hg=>rfl);(case hr=>first|(go_simp;done)|(go_simp;rfl));intro gb287 hg w34 hbox hb;have n0_:=Aside0.mk (Kd.R_below (by (with_reducible repeat (first|apply Kd.R_alloc|apply Kd.R_drewN|apply Kd.R_drew));exact HO276.out) hb);have n1_:=Aside0.mk (Kd.R_below (by (with_reducible repeat (first|apply Kd.R_alloc|apply Kd.R_drewN|apply Kd.R_drew));exact HO281.out) hb);have n2_:=Aside0.mk (Kd.R_below (by (with_reducible repeat (first|apply Kd.R_alloc|apply Kd.R_drewN|apply Kd.R_drew));exact HO286.out) hb);have n3_:=Aside0.mk (blk_below (g:=gb271) (o:=.cells #[.int .i64 a0_0,.slice A0_1 l0_1.length c0_1] 24 (0,0)) (by (with_reducible repeat (first|refine blk_drewN ?_ _|refine blk_drew ?_|refine blk_alloc ?_ _));exact BK271.out) hb);have n4_:=Aside0.mk (blk_below (g:=gb282) (o:=.cells #[.int .i64 t277,.int .i64 t278,.slice Ao31 t279.length co31] 39 (0,0)) (by (with_reducible repeat (first|refine blk_drewN ?_ _|refine blk_drew ?_|refine blk_alloc ?_ _));exact BK282.out) hb);have n5_:=Aside0.mk (below_step (by repeat (first|(with_reducible first|exact HB.out|apply below_alloc|apply pw_below_drewN|apply below_drew1|refine below_set ?_ GE271.out|refine below_set ?_ GE282.out)|exact HB.out)) hb);have n6_:=Aside0.mk (hbox);have n7_:=Aside0.mk ((by rw [hg];exact (below_size (by repeat (first|(with_reducible first|exact HB.out|apply below_alloc|apply pw_below_drewN|apply below_drew1|refine below_set ?_ GE271.out|refine below_set ?_ GE282.out)|exact HB.out))):w.heap.size≤gb287));have n8_:=Aside0.mk ((by rw [hg];exact (below_size (by repeat (first|(with_reducible first|exact HB.out|apply below_alloc|apply pw_below_drewN|apply below_drew1|refine below_set ?_ GE271.out|refine below_set ?_ GE282.out)|exact HB.out))):w.heap.size≤gb287));have n9_:=Aside0.mk ((by rw [hg];exact Nat.ne_of_lt (blk_lt (g:=gb271) (o:=.cells #[.int .i64 a0_0,.slice A0_1 l0_1.length c0_1] 24 (0,0)) (by (with_reducible repeat (first|refine blk_drewN ?_ _|refine blk_drew ?_|refine blk_alloc ?_ _));exact BK271.out)):gb271 ≠ gb287));have n10_:=Aside0.mk ((by rw [hg];exact Nat.ne_of_gt (blk_lt (g:=gb271) (o:=.cells #[.int .i64 a0_0,.slice A0_1 l0_1.length c0_1] 24 (0,0)) (by (with_reducible repeat (first|refine blk_drewN ?_ _|refine blk_drew ?_|refine blk_alloc ?_ _));exact BK271.out)):gb287 ≠ gb271));have n11_:=Aside0.mk ((by rw [hg];exact Nat.ne_of_lt (blk_lt (g:=gb282) (o:=.cells #[.int .i64 t277,.int .i64 t278,.slice Ao31 t279.length co31] 39 (0,0)) (by (with_reducible repeat (first|refine blk_drewN ?_ _|refine blk_drew ?_|refine blk_alloc ?_ _));exact BK282.out)):gb282 ≠ gb287));have n12_:=Aside0.mk ((by rw [hg];exact Nat.ne_of_gt (blk_lt (g:=gb282) (o:=.cells #[.int .i64 t277,.int .i64 t278,.slice Ao31 t279.length co31] 39 (0,0)) (by (with_reducible repeat (first|refine blk_drewN ?_ _|refine blk_drew ?_|refine blk_alloc ?_ _));exact BK282.out)):gb287 ≠ gb282));clear HO276;clear HO281;clear HO286;clear BK271;clear BK282;clear HB;have HO276:=n0_;have HO281:=n1_;have HO286:=n2_;have BK271:=n3_;have BK282:=n4_;have HB:=n5_;have BK287:=n6_;have GW287:=n7_;have GE287:=n8_;have NB271_287:=n9_;have NB287_271:=n10_;have NB282_287:=n11_;have NB287_282:=n12_;clear n0_ n1_ n2_ n3_ n4_ n5_ n6_ n7_ n8_ n9_ n10_ n11_ n12_;clear hb hbox hg;have hnb35:=NB287_271.out;have hnc35:=NB271_287.out;have hnb36:=NB287_282.out;have hnc36:=NB282_287.out;have hcz37_0:w34.cell? ⟨gb287,0,none⟩=some (.int .i64 0):=(blk_cell BK287.out 0).trans rfl;have hcz37_1:w34.cell? ⟨gb287,1,none⟩=some (.slice none 0 0):=(blk_cell BK287.out 1).trans rfl;have hfz37_0:=blk_frozen BK287.out 0;have hfz37_1:=blk_frozen BK287.out 1;obtain ⟨Ao38,co38,eo38⟩:=Kd.R_slice HO286.out;subst eo38)|((with_reducible refine gate_callee (f:=16) rfl ?_);refine goesL_ (some 29) rfl rfl Tryd.func16 (by kernel_rfl) rfl #[.agg #[.int .i64 t283,.slice Ao38 t284.length co38],.string a1] rfl (by (try simp only [List.map_toArray,List.map_cons,List.map_nil]);first|done|rfl|(simp only [List.length_drop,List.length_take];rfl)) ?_;(with_reducible refine (impl_ReadEvents.calls t283 _ _ t284 a1 t288 t289 t290 _ ?side1 ?side2 A13.out (HT_.out.nx (by repeat (first|(with_reducible refine below_set ?_ GE287.out)|(with_reducible first|exact HB.out|apply below_alloc|apply pw_below_drewN|apply below_drew1)|exact HB.out)))).mono ?_);(case side1=>refine (Kd.R_reads' (e:=98) (base:=w.heap.size) (ok:=fun k_=>(True∧some k_ ≠ (.slice Ao26 t274.length co26:Value).ownBlock)) (n:=t284.length) (c:=co38) ?_).2.2;exact (by (with_reducible repeat (first|apply Kd.R_alloc|apply Kd.R_drewN|apply Kd.R_drew));exact (Kd.R_mono (Kd.R_far (p:=⟨gb287,1,none⟩) (Kd.R_far (p:=⟨gb287,0,none⟩) (Kd.R_types HO286.out BK287.out (by decide)) (fun _ hk=>hk.2) (.int .i64 t283)) (fun _ hk=>hk.2) (.slice Ao38 t284.length co38)) (fun _ h_=>h_.1))));(case side2=>exact (Kd.R_reads' HO286.out).2.1);rintro e w39 ⟨v291,rfl,ho0,hb⟩;refine ⟨_,rfl,?_⟩;have n0_:=Aside0.mk (Kd.R_below (by (with_reducible repeat (first|apply Kd.R_alloc|apply Kd.R_drewN|apply Kd.R_drew));exact (Kd.R_mono (Kd.R_far (p:=⟨gb287,1,none⟩) (Kd.R_far (p:=⟨gb287,0,none⟩) (Kd.R_types HO276.out BK287.out (by decide)) (fun _ hk=>hk.2) (.int .i64 t283)) (fun _ hk=>hk.2) (.slice Ao38 t284.length co38)) (fun _ h_=>h_.1))) hb);have n1_:=Aside0.mk (Kd.R_elder' (by (with_reducible repeat (first|apply Kd.R_alloc|apply Kd.R_drewN|apply Kd.R_drew));exact (Kd.R_mono (Kd.R_far (p:=⟨gb287,1,none⟩) (Kd.R_far (p:=⟨gb287,0,none⟩) (Kd.R_types HO281.out BK287.out (by decide)) (fun _ hk=>hk.2) (.int .i64 t283)) (fun _ hk=>hk.2) (.slice Ao38 t284.length co38)) (fun _ h_=>h_.1))) (Kd.R_base ho0) hb);have n2_:=Aside0.mk (Kd.R_below (by (with_reducible repeat (first|apply Kd.R_alloc|apply Kd.R_drewN|apply Kd.R_drew));exact (Kd.R_mono (Kd.R_far (p:=⟨gb287,1,none⟩) (Kd.R_far (p:=⟨gb287,0,none⟩) (Kd.R_types HO286.out BK287.out (by decide)) (fun _ hk=>hk.2) (.int .i64 t283)) (fun _ hk=>hk.2) (.slice Ao38 t284.length co38)) (fun _ h_=>h_.1))) hb);have n3_:=Aside0.mk (Kd.R_lower (Kd.R_new' ho0 (Kd.R_lt (by (with_reducible repeat (first|apply Kd.R_alloc|apply Kd.R_drewN|apply Kd.R_drew));exact (Kd.R_mono (Kd.R_far (p:=⟨gb287,1,none⟩) (Kd.R_far (p:=⟨gb287,0,none⟩) (Kd.R_types HO281.out BK287.out (by decide)) (fun _ hk=>hk.2) (.int .i64 t283)) (fun _ hk=>hk.2) (.slice Ao38 t284.length co38)) (fun _ h_=>h_.1))))) (below_size (by repeat (first|(with_reducible first|exact HB.out|apply below_alloc|apply pw_below_drewN|apply below_drew1|refine below_set ?_ GE271.out|refine below_set ?_ GE282.out|refine below_set ?_ GE287.out)|exact HB.out))));have n4_:=Aside0.mk (blk_below (g:=gb271) (o:=.cells #[.int .i64 a0_0,.slice A0_1 l0_1.length c0_1] 24 (0,0)) (by (with_reducible repeat (first|refine blk_drewN ?_ _|refine blk_drew ?_|refine blk_alloc ?_ _));refine blk_far ?_ NB271_287.out _;(with_reducible repeat (first|refine blk_drewN ?_ _|refine blk_drew ?_|refine blk_alloc ?_ _));refine blk_far ?_ NB271_287.out _;(with_reducible repeat (first|refine blk_drewN ?_ _|refine blk_drew ?_|refine blk_alloc ?_ _));exact BK271.out) hb);have n5_:=Aside0.mk (blk_below (g:=gb282) (o:=.cells #[.int .i64 t277,.int .i64 t278,.slice Ao31 t279.length co31] 39 (0,0)) (by (with_reducible repeat (first|refine blk_drewN ?_ _|refine blk_drew ?_|refine blk_alloc ?_ _));refine blk_far ?_ NB282_287.out _;(with_reducible repeat (first|refine blk_drewN ?_ _|refine blk_drew ?_|refine blk_alloc ?_ _));refine blk_far ?_ NB282_287.out _;(with_reducible repeat (first|refine blk_drewN ?_ _|refine blk_drew ?_|refine blk_alloc ?_ _));exact BK282.out) hb);have n6_:=Aside0.mk (blk_below (g:=gb287) (o:=.cells #[.int .i64 t283,.slice Ao38 t284.length co38] 31 (0,0)) (by (with_reducible repeat (first|refine blk_drewN ?_ _|refine blk_drew ?_|refine blk_alloc ?_ _));refine blk_put (cs:=#[.int .i64 t283,.slice none 0 0]) ?_ 1 _ rfl;(with_reducible repeat (first|refine blk_drewN ?_ _|refine blk_drew ?_|refine blk_alloc ?_ _));refine blk_put (cs:=#[.int .i64 0,.slice none 0 0]) ?_ 0 _ rfl;(with_reducible repeat (first|refine blk_drewN ?_ _|refine blk_drew ?_|refine blk_alloc ?_ _));exact BK287.out) hb);have n7_:=Aside0.mk (below_step (by repeat (first|(with_reducible first|exact HB.out|apply below_alloc|apply pw_below_drewN|apply below_drew1|refine below_set ?_ GE271.out|refine below_set ?_ GE282.out|refine below_set ?_ GE287.out)|exact HB.out)) hb);clear HO276;clear HO281;clear HO286;clear BK271;clear BK282;clear BK287;clear HB;have HO276:=n0_;have HO281:=n1_;have HO286:=n2_;have HO292:=n3_;have BK271:=n4_;have BK282:=n5_;have BK287:=n6_;have HB:=n7_;clear n0_ n1_ n2_ n3_ n4_ n5_ n6_ n7_;(try clear hb);(try clear hb2);(try clear hk);(try clear hi);(try clear ho0))|((with_reducible refine gate_dst (N:=8) rfl ?_);refine box_event ?hg (N:=8) ?hd (cs:=#[.int .i64 0,.int .i64 0,.slice none 0 0]) (t:=39) ?hr ?_;(case hd=>rfl);(case hg=>rfl);(case hr=>first|(go_simp;done)|(go_simp;rfl));intro gb293 hg w40 hbox hb;have n0_:=Aside0.mk (Kd.R_below (by (with_reducible repeat (first|apply Kd.R_alloc|apply Kd.R_drewN|apply Kd.R_drew));exact HO276.out) hb);have n1_:=Aside0.mk (Kd.R_below (by (with_reducible repeat (first|apply Kd.R_alloc|apply Kd.R_drewN|apply Kd.R_drew));exact HO281.out) hb);have n2_:=Aside0.mk (Kd.R_below (by (with_reducible repeat (first|apply Kd.R_alloc|apply Kd.R_drewN|apply Kd.R_drew));exact HO286.out) hb);have n3_:=Aside0.mk (Kd.R_below (by (with_reducible repeat (first|apply Kd.R_alloc|apply Kd.R_drewN|apply Kd.R_drew));exact HO292.out) hb);have n4_:=Aside0.mk (blk_below (g:=gb271) (o:=.cells #[.int .i64 a0_0,.slice A0_1 l0_1.length c0_1] 24 (0,0)) (by (with_reducible repeat (first|refine blk_drewN ?_ _|refine blk_drew ?_|refine blk_alloc ?_ _));exact BK271.out) hb);have n5_:=Aside0.mk (blk_below (g:=gb282) (o:=.cells #[.int .i64 t277,.int .i64 t278,.slice Ao31 t279.length co31] 39 (0,0)) (by (with_reducible repeat (first|refine blk_drewN ?_ _|refine blk_drew ?_|refine blk_alloc ?_ _));exact BK282.out) hb);have n6_:=Aside0.mk (blk_below (g:=gb287) (o:=.cells #[.int .i64 t283,.slice Ao38 t284.length co38] 31 (0,0)) (by (with_reducible repeat (first|refine blk_drewN ?_ _|refine blk_drew ?_|refine blk_alloc ?_ _));exact BK287.out) hb);have n7_:=Aside0.mk (below_step (by repeat (first|(with_reducible first|exact HB.out|apply below_alloc|apply pw_below_drewN|apply below_drew1|refine below_set ?_ GE271.out|refine below_set ?_ GE282.out|refine below_set ?_ GE287.out)|exact HB.out)) hb);have n8_:=Aside0.mk (hbox);have n9_:=Aside0.mk ((by rw [hg];exact (below_size (by repeat (first|(with_reducible first|exact HB.out|apply below_alloc|apply pw_below_drewN|apply below_drew1|refine below_set ?_ GE271.out|refine below_set ?_ GE282.out|refine below_set ?_ GE287.out)|exact HB.out))):w.heap.size≤gb293));have n10_:=Aside0.mk ((by rw [hg];exact (below_size (by repeat (first|(with_reducible first|exact HB.out|apply below_alloc|apply pw_below_drewN|apply below_drew1|refine below_set ?_ GE271.out|refine below_set ?_ GE282.out|refine below_set ?_ GE287.out)|exact HB.out))):w.heap.size≤gb293));have n11_:=Aside0.mk ((by rw [hg];exact Nat.ne_of_lt (blk_lt (g:=gb271) (o:=.cells #[.int .i64 a0_0,.slice A0_1 l0_1.length c0_1] 24 (0,0)) (by (with_reducible repeat (first|refine blk_drewN ?_ _|refine blk_drew ?_|refine blk_alloc ?_ _));exact BK271.out)):gb271 ≠ gb293));have n12_:=Aside0.mk ((by rw [hg];exact Nat.ne_of_gt (blk_lt (g:=gb271) (o:=.cells #[.int .i64 a0_0,.slice A0_1 l0_1.length c0_1] 24 (0,0)) (by (with_reducible repeat (first|refine blk_drewN ?_ _|refine blk_drew ?_|refine blk_alloc ?_ _));exact BK271.out)):gb293 ≠ gb271));have n13_:=Aside0.mk ((by rw [hg];exact Nat.ne_of_lt (blk_lt (g:=gb282) (o:=.cells #[.int .i64 t277,.int .i64 t278,.slice Ao31 t279.length co31] 39 (0,0)) (by (with_reducible repeat (first|refine blk_drewN ?_ _|refine blk_drew ?_|refine blk_alloc ?_ _));exact BK282.out)):gb282 ≠ gb293));have n14_:=Aside0.mk ((by rw [hg];exact Nat.ne_of_gt (blk_lt (g:=gb282) (o:=.cells #[.int .i64 t277,.int .i64 t278,.slice Ao31 t279.length co31] 39 (0,0)) (by (with_reducible repeat (first|refine blk_drewN ?_ _|refine blk_drew ?_|refine blk_alloc ?_ _));exact BK282.out)):gb293 ≠ gb282));have n15_:=Aside0.mk ((by rw [hg];exact Nat.ne_of_lt (blk_lt (g:=gb287) (o:=.cells #[.int .i64 t283,.slice Ao38 t284.length co38] 31 (0,0)) (by (with_reducible repeat (first|refine blk_drewN ?_ _|refine blk_drew ?_|refine blk_alloc ?_ _));exact BK287.out)):gb287 ≠ gb293));have n16_:=Aside0.mk ((by rw [hg];exact Nat.ne_of_gt (blk_lt (g:=gb287) (o:=.cells #[.int .i64 t283,.slice Ao38 t284.length co38] 31 (0,0)) (by (with_reducible repeat (first|refine blk_drewN ?_ _|refine blk_drew ?_|refine blk_alloc ?_ _));exact BK287.out)):gb293 ≠ gb287));clear HO276;clear HO281;clear HO286;clear HO292;clear BK271;clear BK282;clear BK287;clear HB;have HO276:=n0_;have HO281:=n1_;have HO286:=n2_;have HO292:=n3_;have BK271:=n4_;have BK282:=n5_;have BK287:=n6_;have HB:=n7_;have BK293:=n8_;have GW293:=n9_;have GE293:=n10_;have NB271_293:=n11_;have NB293_271:=n12_;have NB282_293:=n13_;have NB293_282:=n14_;have NB287_293:=n15_;have NB293_287:=n16_;clear n0_ n1_ n2_ n3_ n4_ n5_ n6_ n7_ n8_ n9_ n10_ n11_ n12_ n13_ n14_ n15_ n16_;clear hb hbox hg;have hnb41:=NB293_271.out;have hnc41:=NB271_293.out;have hnb42:=NB293_282.out;have hnc42:=NB282_293.out;have hnb43:=NB293_287.out;have hnc43:=NB287_293.out;have hcz44_0:w40.cell? ⟨gb293,0,none⟩=some (.int .i64 0):=(blk_cell BK293.out 0).trans rfl;have hcz44_1:w40.cell? ⟨gb293,1,none⟩=some (.int .i64 0):=(blk_cell BK293.out 1).trans rfl;have hcz44_2:w40.cell? ⟨gb293,2,none⟩=some (.slice none 0 0):=(blk_cell BK293.out 2).trans rfl;have hfz44_0:=blk_frozen BK293.out 0;have hfz44_1:=blk_frozen BK293.out 1;have hfz44_2:=blk_frozen BK293.out 2;obtain ⟨Ao45,co45,eo45⟩:=Kd.R_slice HO292.out;subst eo45;have hcz46_0:w40.cell? ⟨gb282,0,none⟩=some (.int .i64 t277):=(blk_cell BK282.out 0).trans rfl;have hcz46_1:w40.cell? ⟨gb282,1,none⟩=some (.int .i64 t278):=(blk_cell BK282.out 1).trans rfl;have hcz46_2:w40.cell? ⟨gb282,2,none⟩=some (.slice Ao31 t279.length co31):=(blk_cell BK282.out 2).trans rfl;have hfz46_0:=blk_frozen BK282.out 0;have hfz46_1:=blk_frozen BK282.out 1;have hfz46_2:=blk_frozen BK282.out 2)|((with_reducible refine gate_callee (f:=17) rfl ?_);refine goesL_ (some 32) rfl rfl Tryd.func17 (by kernel_rfl) rfl #[.agg #[.int .i64 t288,.int .i64 t289,.slice Ao45 t290.length co45],.agg #[.int .i64 t277,.int .i64 t278,.slice Ao31 t279.length co31]] rfl (by (try simp only [List.map_toArray,List.map_cons,List.map_nil]);first|done|rfl|(simp only [List.length_drop,List.length_take];rfl)) ?_;(with_reducible refine (laws_eqHeard.calls k t288 t289 _ _ t290 t277 t278 _ _ t279 true _ ?side1 ?side2 ?side3 ?side4 A14.out).mono ?_);(case side1=>refine (Kd.R_reads' (e:=52) (base:=w.heap.size) (ok:=fun k_=>(True∧some k_ ≠ (.slice Ao31 t279.length co31:Value).ownBlock)) (n:=t290.length) (c:=co45) ?_).2.2;exact (by (with_reducible repeat (first|apply Kd.R_alloc|apply Kd.R_drewN|apply Kd.R_drew));exact (Kd.R_mono (Kd.R_far (p:=⟨gb293,2,none⟩) (Kd.R_far (p:=⟨gb293,1,none⟩) (Kd.R_far (p:=⟨gb293,0,none⟩) (Kd.R_types HO292.out BK293.out (by decide)) (fun _ hk=>hk.2) (.int .i64 t288)) (fun _ hk=>hk.2) (.int .i64 t289)) (fun _ hk=>hk.2) (.slice Ao45 t290.length co45)) (fun _ h_=>h_.1))));(case side2=>exact (Kd.R_reads' HO292.out).2.1);(case side3=>refine (Kd.R_reads' (e:=52) (base:=w.heap.size) (ok:=fun k_=>(True∧some k_ ≠ (.slice Ao45 t290.length co45:Value).ownBlock)) (n:=t279.length) (c:=co31) ?_).2.2;exact (by (with_reducible repeat (first|apply Kd.R_alloc|apply Kd.R_drewN|apply Kd.R_drew));exact (Kd.R_mono (Kd.R_far (p:=⟨gb293,2,none⟩) (Kd.R_far (p:=⟨gb293,1,none⟩) (Kd.R_far (p:=⟨gb293,0,none⟩) (Kd.R_types HO281.out BK293.out (by decide)) (fun _ hk=>hk.2) (.int .i64 t288)) (fun _ hk=>hk.2) (.int .i64 t289)) (fun _ hk=>hk.2) (.slice Ao45 t290.length co45)) (fun _ h_=>h_.1))));(case side4=>exact (Kd.R_reads' HO281.out).2.1);rintro e w47 ⟨rfl,hb⟩;refine ⟨_,rfl,?_⟩;have n0_:=Aside0.mk (Kd.R_below (by (with_reducible repeat (first|apply Kd.R_alloc|apply Kd.R_drewN|apply Kd.R_drew));exact (Kd.R_mono (Kd.R_far (p:=⟨gb293,2,none⟩) (Kd.R_far (p:=⟨gb293,1,none⟩) (Kd.R_far (p:=⟨gb293,0,none⟩) (Kd.R_types HO276.out BK293.out (by decide)) (fun _ hk=>hk.2) (.int .i64 t288)) (fun _ hk=>hk.2) (.int .i64 t289)) (fun _ hk=>hk.2) (.slice Ao45 t290.length co45)) (fun _ h_=>h_.1))) hb);have n1_:=Aside0.mk (Kd.R_below (by (with_reducible repeat (first|apply Kd.R_alloc|apply Kd.R_drewN|apply Kd.R_drew));exact (Kd.R_mono (Kd.R_far (p:=⟨gb293,2,none⟩) (Kd.R_far (p:=⟨gb293,1,none⟩) (Kd.R_far (p:=⟨gb293,0,none⟩) (Kd.R_types HO281.out BK293.out (by decide)) (fun _ hk=>hk.2) (.int .i64 t288)) (fun _ hk=>hk.2) (.int .i64 t289)) (fun _ hk=>hk.2) (.slice Ao45 t290.length co45)) (fun _ h_=>h_.1))) hb);have n2_:=Aside0.mk (Kd.R_below (by (with_reducible repeat (first|apply Kd.R_alloc|apply Kd.R_drewN|apply Kd.R_drew));exact (Kd.R_mono (Kd.R_far (p:=⟨gb293,2,none⟩) (Kd.R_far (p:=⟨gb293,1,none⟩) (Kd.R_far (p:=⟨gb293,0,none⟩) (Kd.R_types HO286.out BK293.out (by decide)) (fun _ hk=>hk.2) (.int .i64 t288)) (fun _ hk=>hk.2) (.int .i64 t289)) (fun _ hk=>hk.2) (.slice Ao45 t290.length co45)) (fun _ h_=>h_.1))) hb);have n3_:=Aside0.mk (Kd.R_below (by (with_reducible repeat (first|apply Kd.R_alloc|apply Kd.R_drewN|apply Kd.R_drew));exact (Kd.R_mono (Kd.R_far (p:=⟨gb293,2,none⟩) (Kd.R_far (p:=⟨gb293,1,none⟩) (Kd.R_far (p:=⟨gb293,0,none⟩) (Kd.R_types HO292.out BK293.out (by decide)) (fun _ hk=>hk.2) (.int .i64 t288)) (fun _ hk=>hk.2) (.int .i64 t289)) (fun _ hk=>hk.2) (.slice Ao45 t290.length co45)) (fun _ h_=>h_.1))) hb);have n4_:=Aside0.mk (blk_below (g:=gb271) (o:=.cells #[.int .i64 a0_0,.slice A0_1 l0_1.length c0_1] 24 (0,0)) (by (with_reducible repeat (first|refine blk_drewN ?_ _|refine blk_drew ?_|refine blk_alloc ?_ _));refine blk_far ?_ NB271_293.out _;(with_reducible repeat (first|refine blk_drewN ?_ _|refine blk_drew ?_|refine blk_alloc ?_ _));refine blk_far ?_ NB271_293.out _;(with_reducible repeat (first|refine blk_drewN ?_ _|refine blk_drew ?_|refine blk_alloc ?_ _));refine blk_far ?_ NB271_293.out _;(with_reducible repeat (first|refine blk_drewN ?_ _|refine blk_drew ?_|refine blk_alloc ?_ _));exact BK271.out) hb);have n5_:=Aside0.mk (blk_below (g:=gb282) (o:=.cells #[.int .i64 t277,.int .i64 t278,.slice Ao31 t279.length co31] 39 (0,0)) (by (with_reducible repeat (first|refine blk_drewN ?_ _|refine blk_drew ?_|refine blk_alloc ?_ _));refine blk_far ?_ NB282_293.out _;(with_reducible repeat (first|refine blk_drewN ?_ _|refine blk_drew ?_|refine blk_alloc ?_ _));refine blk_far ?_ NB282_293.out _;(with_reducible repeat (first|refine blk_drewN ?_ _|refine blk_drew ?_|refine blk_alloc ?_ _));refine blk_far ?_ NB282_293.out _;(with_reducible repeat (first|refine blk_drewN ?_ _|refine blk_drew ?_|refine blk_alloc ?_ _));exact BK282.out) hb);have n6_:=Aside0.mk (blk_below (g:=gb287) (o:=.cells #[.int .i64 t283,.slice Ao38 t284.length co38] 31 (0,0)) (by (with_reducible repeat (first|refine blk_drewN ?_ _|refine blk_drew ?_|refine blk_alloc ?_ _));refine blk_far ?_ NB287_293.out _;(with_reducible repeat (first|refine blk_drewN ?_ _|refine blk_drew ?_|refine blk_alloc ?_ _));refine blk_far ?_ NB287_293.out _;(with_reducible repeat (first|refine blk_drewN ?_ _|refine blk_drew ?_|refine blk_alloc ?_ _));refine blk_far ?_ NB287_293.out _;(with_reducible repeat (first|refine blk_drewN ?_ _|refine blk_drew ?_|refine blk_alloc ?_ _));exact BK287.out) hb);have n7_:=Aside0.mk (blk_below (g:=gb293) (o:=.cells #[.int .i64 t288,.int .i64 t289,.slice Ao45 t290.length co45] 39 (0,0)) (by (with_reducible repeat (first|refine blk_drewN ?_ _|refine blk_drew ?_|refine blk_alloc ?_ _));refine blk_put (cs:=#[.int .i64 t288,.int .i64 t289,.slice none 0 0]) ?_ 2 _ rfl;(with_reducible repeat (first|refine blk_drewN ?_ _|refine blk_drew ?_|refine blk_alloc ?_ _));refine blk_put (cs:=#[.int .i64 t288,.int .i64 0,.slice none 0 0]) ?_ 1 _ rfl;(with_reducible repeat (first|refine blk_drewN ?_ _|refine blk_drew ?_|refine blk_alloc ?_ _));refine blk_put (cs:=#[.int .i64 0,.int .i64 0,.slice none 0 0]) ?_ 0 _ rfl;(with_reducible repeat (first|refine blk_drewN ?_ _|refine blk_drew ?_|refine blk_alloc ?_ _));exact BK293.out) hb);have n8_:=Aside0.mk (below_step (by repeat (first|(with_reducible first|exact HB.out|apply below_alloc|apply pw_below_drewN|apply below_drew1|refine below_set ?_ GE271.out|refine below_set ?_ GE282.out|refine below_set ?_ GE287.out|refine below_set ?_ GE293.out)|exact HB.out)) hb);clear HO276;clear HO281;clear HO286;clear HO292;clear BK271;clear BK282;clear BK287;clear BK293;clear HB;have HO276:=n0_;have HO281:=n1_;have HO286:=n2_;have HO292:=n3_;have BK271:=n4_;have BK282:=n5_;have BK287:=n6_;have BK293:=n7_;have HB:=n8_;clear n0_ n1_ n2_ n3_ n4_ n5_ n6_ n7_ n8_;(try clear hb);(try clear hb2);(try clear hk);(try clear hi)))
   have n0_:=Aside0.mk (Kd.R_drew HO276.out)
   have n1_:=Aside0.mk (Kd.R_drew HO281.out)
   have n2_:=Aside0.mk (Kd.R_drew HO286.out)
   have n3_:=Aside0.mk (Kd.R_drew HO292.out)
   have n4_:=Aside0.mk (blk_drew BK271.out)
   have n5_:=Aside0.mk (blk_drew BK282.out)
   have n6_:=Aside0.mk (blk_drew BK287.out)
   have n7_:=Aside0.mk (blk_drew BK293.out)
   have n8_:=Aside0.mk (below_drew1 HB.out)
   clear HO276
   clear HO281
   clear HO286
   clear HO292
   clear BK271
   clear BK282
   clear BK287
   clear BK293
   clear HB
   have HO276:=n0_
   have HO281:=n1_
   have HO286:=n2_
   have HO292:=n3_
   have BK271:=n4_
   have BK282:=n5_
   have BK287:=n6_
   have BK293:=n7_
   have HB:=n8_
   clear n0_ n1_ n2_ n3_ n4_ n5_ n6_ n7_ n8_
   refine start_ (n:=5) (S:=fun w'=>w'.cell? ⟨gb287,0,none⟩=some (.int .i64 t283)∧w'.cell? ⟨gb287,1,none⟩=some (.slice Ao38 t284.length co38)∧w'.cell? ⟨gb271,0,none⟩=some (.int .i64 a0_0)∧w'.cell? ⟨gb271,1,none⟩=some (.slice A0_1 l0_1.length c0_1)) (ds:=[]) #[false,false,false,false,false] (by kernel_rfl) rfl rfl ⟨(blk_cell BK287.out 0).trans rfl,(blk_cell BK287.out 1).trans rfl,(blk_cell BK271.out 0).trans rfl,(blk_cell BK271.out 1).trans rfl⟩ (fun hHeld=>?_)
   generalize w47.drew=w48 at HO276 HO281 HO286 HO292 BK271 BK282 BK287 BK293 HB hHeld ⊢
   refine take_ (i:=0) (N:=some 34) (v:=?_) (a':=?_) #[true,false,false,false,false] rfl rfl (by kernel_rfl) (fun _ _ _ h=>h) (Or.inl ⟨by rfl,?_⟩) hHeld ?_ ?_
   rotate_left
   ·rintro w' ⟨s0,s1,s2,s3⟩
    go_simp
    with_reducible rfl
   rotate_left
   ·simp only [Act.put,List.setIfInBounds_toArray,List.set_cons_zero,List.set_cons_succ,i64_w,i32_w]
    rfl
   refine take_ (i:=1) (N:=some 35) (v:=?_) (a':=?_) #[true,true,false,false,false] rfl rfl (by kernel_rfl) (fun _ _ _ h=>h) (Or.inl ⟨by rfl,?_⟩) hHeld ?_ ?_
   rotate_left
   ·rintro w' ⟨s0,s1,s2,s3⟩
    go_simp
    with_reducible rfl
   rotate_left
   ·simp only [Act.put,List.setIfInBounds_toArray,List.set_cons_zero,List.set_cons_succ,i64_w,i32_w]
    rfl
   refine one_ (i:=2) (N:=some 36) #[true,true,true,false,false] rfl rfl (by kernel_rfl) (by decide) (fun K hK=>?_)
   refine goes_ Tryd.func10 (by kernel_rfl) rfl #[.agg #[.int .i64 a0_0,.slice A0_1 l0_1.length c0_1]] (by rfl) rfl rfl (by (try simp only [List.map_toArray,List.map_cons,List.map_nil]);first|done|rfl|(simp only [List.length_drop,List.length_take];rfl)) ?_
   with_reducible refine (laws_toLayout.calls k a0_0 _ _ l0_1 t295 t296 _ ?side1 ?side2 A16.out).mono ?_
   (case side1=>repeat (first|exact (Kd.C_below HR0_1.out HB.out)|(with_reducible refine Kd.C_alloc ?_ _)|(with_reducible refine Kd.C_drewN ?_ _)|(with_reducible refine Kd.C_drew ?_)))
   (case side2=>exact HC0_1.out)
   rintro e w49 ⟨v297,rfl,ho0,hb⟩
   refine ⟨_,rfl,?_⟩
   have n0_:=Aside0.mk (Kd.R_elder' (by (with_reducible repeat (first|apply Kd.R_alloc|apply Kd.R_drewN|apply Kd.R_drew));exact HO276.out) (Kd.R_base ho0) hb)
   have n1_:=Aside0.mk (Kd.R_below (by (with_reducible repeat (first|apply Kd.R_alloc|apply Kd.R_drewN|apply Kd.R_drew));exact HO281.out) hb)
   have n2_:=Aside0.mk (Kd.R_elder' (by (with_reducible repeat (first|apply Kd.R_alloc|apply Kd.R_drewN|apply Kd.R_drew));exact HO286.out) (Kd.R_base ho0) hb)
   have n3_:=Aside0.mk (Kd.R_below (by (with_reducible repeat (first|apply Kd.R_alloc|apply Kd.R_drewN|apply Kd.R_drew));exact HO292.out) hb)
   have n4_:=Aside0.mk (Kd.R_lower (Kd.R_new' (Kd.R_new' ho0 (Kd.R_lt (by (with_reducible repeat (first|apply Kd.R_alloc|apply Kd.R_drewN|apply Kd.R_drew));exact HO276.out))) (Kd.R_lt (by (with_reducible repeat (first|apply Kd.R_alloc|apply Kd.R_drewN|apply Kd.R_drew));exact HO286.out))) (below_size (by repeat (first|(with_reducible first|exact HB.out|apply below_alloc|apply pw_below_drewN|apply below_drew1|refine below_set ?_ GE271.out|refine below_set ?_ GE282.out|refine below_set ?_ GE287.out|refine below_set ?_ GE293.out)|exact HB.out))))
   have n5_:=Aside0.mk (blk_below (g:=gb271) (o:=.cells #[.int .i64 a0_0,.slice A0_1 l0_1.length c0_1] 24 (0,0)) (by (with_reducible repeat (first|refine blk_drewN ?_ _|refine blk_drew ?_|refine blk_alloc ?_ _));exact BK271.out) hb)
   have n6_:=Aside0.mk (blk_below (g:=gb282) (o:=.cells #[.int .i64 t277,.int .i64 t278,.slice Ao31 t279.length co31] 39 (0,0)) (by (with_reducible repeat (first|refine blk_drewN ?_ _|refine blk_drew ?_|refine blk_alloc ?_ _));exact BK282.out) hb)
   have n7_:=Aside0.mk (blk_below (g:=gb287) (o:=.cells #[.int .i64 t283,.slice Ao38 t284.length co38] 31 (0,0)) (by (with_reducible repeat (first|refine blk_drewN ?_ _|refine blk_drew ?_|refine blk_alloc ?_ _));exact BK287.out) hb)
   have n8_:=Aside0.mk (blk_below (g:=gb293) (o:=.cells #[.int .i64 t288,.int .i64 t289,.slice Ao45 t290.length co45] 39 (0,0)) (by (with_reducible repeat (first|refine blk_drewN ?_ _|refine blk_drew ?_|refine blk_alloc ?_ _));exact BK293.out) hb)
   have n9_:=Aside0.mk (below_step (by repeat (first|(with_reducible first|exact HB.out|apply below_alloc|apply pw_below_drewN|apply below_drew1|refine below_set ?_ GE271.out|refine below_set ?_ GE282.out|refine below_set ?_ GE287.out|refine below_set ?_ GE293.out)|exact HB.out)) hb)
   clear HO276
   clear HO281
   clear HO286
   clear HO292
   clear BK271
   clear BK282
   clear BK287
   clear BK293
   clear HB
   have HO276:=n0_
   have HO281:=n1_
   have HO286:=n2_
   have HO292:=n3_
   have HO298:=n4_
   have BK271:=n5_
   have BK282:=n6_
   have BK287:=n7_
   have BK293:=n8_
   have HB:=n9_
   clear n0_ n1_ n2_ n3_ n4_ n5_ n6_ n7_ n8_ n9_
   (try clear hb)
   (try clear hb2)
   (try clear hk)
   (try clear hi)
   (try clear ho0)
   obtain ⟨Ao50,co50,eo50⟩:=Kd.R_slice HO298.out
   (first|subst eo50|(injection eo50 with f1_ f2_ f3_;have f4_:=f1_.symm;have f5_:=f3_.symm;clear f1_ f2_ f3_;subst f4_;subst f5_))
   refine hK.out _ _ ⟨(blk_cell BK287.out 0).trans rfl,(blk_cell BK287.out 1).trans rfl,(blk_cell BK271.out 0).trans rfl,(blk_cell BK271.out 1).trans rfl⟩ (fun hHeld=>?_)
   clear hK K
   refine norm_ (a':=?_) ?_ ?_
   rotate_left
   ·show Act.put _ (some 36) _=_
    simp only [Act.put,List.setIfInBounds_toArray,List.set_cons_zero,List.set_cons_succ,i64_w,i32_w]
    rfl
   refine one_ (i:=3) (N:=some 37) #[true,true,true,true,false] rfl rfl (by kernel_rfl) (by decide) (fun K hK=>?_)
   refine goes_ Tryd.func13 (by kernel_rfl) rfl #[.agg #[.int .i64 t283,.slice Ao38 t284.length co38],.agg #[.int .i64 t295,.slice Ao50 t296.length co50]] (by rfl) rfl rfl (by (try simp only [List.map_toArray,List.map_cons,List.map_nil]);first|done|rfl|(simp only [List.length_drop,List.length_take];rfl)) ?_
   with_reducible refine (laws_eqLayout.calls k t283 _ _ t284 t295 _ _ t296 true _ ?side1 ?side2 ?side3 ?side4 A17.out).mono ?_
   (case side1=>repeat (first|exact (Kd.R_reads' HO286.out).2.2|(with_reducible refine Kd.C_alloc ?_ _)|(with_reducible refine Kd.C_drewN ?_ _)|(with_reducible refine Kd.C_drew ?_)))
   (case side2=>exact (Kd.R_reads' HO286.out).2.1)
   (case side3=>repeat (first|exact (Kd.R_reads' HO298.out).2.2|(with_reducible refine Kd.C_alloc ?_ _)|(with_reducible refine Kd.C_drewN ?_ _)|(with_reducible refine Kd.C_drew ?_)))
   (case side4=>exact (Kd.R_reads' HO298.out).2.1)
   rintro e w51 ⟨rfl,hb⟩
   refine ⟨_,rfl,?_⟩
   have n0_:=Aside0.mk (Kd.R_below (by (with_reducible repeat (first|apply Kd.R_alloc|apply Kd.R_drewN|apply Kd.R_drew));exact HO276.out) hb)
   have n1_:=Aside0.mk (Kd.R_below (by (with_reducible repeat (first|apply Kd.R_alloc|apply Kd.R_drewN|apply Kd.R_drew));exact HO281.out) hb)
   have n2_:=Aside0.mk (Kd.R_below (by (with_reducible repeat (first|apply Kd.R_alloc|apply Kd.R_drewN|apply Kd.R_drew));exact HO286.out) hb)
   have n3_:=Aside0.mk (Kd.R_below (by (with_reducible repeat (first|apply Kd.R_alloc|apply Kd.R_drewN|apply Kd.R_drew));exact HO292.out) hb)
   have n4_:=Aside0.mk (Kd.R_below (by (with_reducible repeat (first|apply Kd.R_alloc|apply Kd.R_drewN|apply Kd.R_drew));exact HO298.out) hb)
   have n5_:=Aside0.mk (blk_below (g:=gb271) (o:=.cells #[.int .i64 a0_0,.slice A0_1 l0_1.length c0_1] 24 (0,0)) (by (with_reducible repeat (first|refine blk_drewN ?_ _|refine blk_drew ?_|refine blk_alloc ?_ _));exact BK271.out) hb)
   have n6_:=Aside0.mk (blk_below (g:=gb282) (o:=.cells #[.int .i64 t277,.int .i64 t278,.slice Ao31 t279.length co31] 39 (0,0)) (by (with_reducible repeat (first|refine blk_drewN ?_ _|refine blk_drew ?_|refine blk_alloc ?_ _));exact BK282.out) hb)
   have n7_:=Aside0.mk (blk_below (g:=gb287) (o:=.cells #[.int .i64 t283,.slice Ao38 t284.length co38] 31 (0,0)) (by (with_reducible repeat (first|refine blk_drewN ?_ _|refine blk_drew ?_|refine blk_alloc ?_ _));exact BK287.out) hb)
   have n8_:=Aside0.mk (blk_below (g:=gb293) (o:=.cells #[.int .i64 t288,.int .i64 t289,.slice Ao45 t290.length co45] 39 (0,0)) (by (with_reducible repeat (first|refine blk_drewN ?_ _|refine blk_drew ?_|refine blk_alloc ?_ _));exact BK293.out) hb)
   have n9_:=Aside0.mk (below_step (by repeat (first|(with_reducible first|exact HB.out|apply below_alloc|apply pw_below_drewN|apply below_drew1|refine below_set ?_ GE271.out|refine below_set ?_ GE282.out|refine below_set ?_ GE287.out|refine below_set ?_ GE293.out)|exact HB.out)) hb)
   clear HO276
   clear HO281
   clear HO286
   clear HO292
   clear HO298
   clear BK271
   clear BK282
   clear BK287
   clear BK293
   clear HB
   have HO276:=n0_
   have HO281:=n1_
   have HO286:=n2_
   have HO292:=n3_
   have HO298:=n4_
   have BK271:=n5_
   have BK282:=n6_
   have BK287:=n7_
   have BK293:=n8_
   have HB:=n9_
   clear n0_ n1_ n2_ n3_ n4_ n5_ n6_ n7_ n8_ n9_
   (try clear hb)
   (try clear hb2)
   (try clear hk)
   (try clear hi)
   refine hK.out _ _ ⟨(blk_cell BK287.out 0).trans rfl,(blk_cell BK287.out 1).trans rfl,(blk_cell BK271.out 0).trans rfl,(blk_cell BK271.out 1).trans rfl⟩ (fun hHeld=>?_)
   clear hK K
   refine norm_ (a':=?_) ?_ ?_
   rotate_left
   ·show Act.put _ (some 37) _=_
    simp only [Act.put,List.setIfInBounds_toArray,List.set_cons_zero,List.set_cons_succ,i64_w,i32_w]
    rfl
   refine pure_ (i:=4) (N:=some 38) (v:=?_) (a':=?_) #[true,true,true,true,true] rfl rfl (by kernel_rfl) (fun _ _ _ h=>h) (Or.inl ⟨by rfl,?_⟩) ?_ ?_
   rotate_left
   ·intro w'
    go_simp
    with_reducible rfl
   rotate_left
   ·simp only [Act.put,List.setIfInBounds_toArray,List.set_cons_zero,List.set_cons_succ,i64_w,i32_w]
    rfl
   refine done_ (by kernel_rfl) ?_
   have hcz52_0:w51.cell? ⟨gb287,0,none⟩=some (.int .i64 t283):=(blk_cell BK287.out 0).trans rfl
   have hcz52_1:w51.cell? ⟨gb287,1,none⟩=some (.slice Ao38 t284.length co38):=(blk_cell BK287.out 1).trans rfl
   have hfz52_0:=blk_frozen BK287.out 0
   have hfz52_1:=blk_frozen BK287.out 1
   go_upto_region 16 with (first|((with_reducible refine gate_callee (f:=18) rfl ?_);refine goesL_ (some 41) rfl rfl Tryd.func18 (by kernel_rfl) rfl #[.agg #[.int .i64 t283,.slice Ao38 t284.length co38],.int .i64 1] rfl (by (try simp only [List.map_toArray,List.map_cons,List.map_nil]);first|done|rfl|(simp only [List.length_drop,List.length_take];rfl)) ?_;(with_reducible refine (laws_markLayout.calls k t283 (fun k_=>some k_=(.slice Ao38 t284.length co38:Value).ownBlock) (.slice Ao38 t284.length co38) t284 1 t300 t301 w _ ?side1 ?side2 A19.out).mono ?_);(case side1=>repeat (first|(with_reducible first|exact HB.out|apply below_alloc|apply pw_below_drewN|apply below_drew1|refine below_set ?_ GE271.out|refine below_set ?_ GE282.out|refine below_set ?_ GE287.out|refine below_set ?_ GE293.out)|exact HB.out));(case side2=>exact Kd.R_tight rfl HO286.out);rintro e w53 ⟨rfl,hy0,hb,hkp⟩;refine ⟨_,rfl,?_⟩;have n0_:=Aside0.mk (blk_kept (by (with_reducible repeat (first|refine blk_drewN ?_ _|refine blk_drew ?_|refine blk_alloc ?_ _));exact BK271.out) hkp (fun hs_=>(fun e_=>(Kd.R_ne HO286.out BK271.out (by decide)) e_) hs_));have n1_:=Aside0.mk (Kd.R_mono (ok':=fun k_=>some k_ ≠ (.slice Ao38 t284.length co38:Value).ownBlock∧some k_ ≠ (.slice Ao50 t296.length co50:Value).ownBlock) (Kd.R_keptB (HO276.out) hkp (fun k_ hk_ hs_=>absurd hs_ (by first|exact hk_.1.2|simp [hk_]))) (fun k_ hk_=>by first|exact ⟨hk_.1.1.2,hk_.1.2⟩|simp [hk_]));have n2_:=Aside0.mk (Kd.R_mono (ok':=fun k_=>some k_ ≠ (.slice Ao45 t290.length co45:Value).ownBlock) (Kd.R_keptB ((Kd.R_apart' HO281.out (Kd.R_typed HO286.out) (by decide))) hkp (fun k_ hk_ hs_=>absurd hs_ (by first|exact hk_.2|simp [hk_]))) (fun k_ hk_=>by first|exact hk_.1.1.2|simp [hk_]));have n3_:=Aside0.mk (blk_kept (by (with_reducible repeat (first|refine blk_drewN ?_ _|refine blk_drew ?_|refine blk_alloc ?_ _));exact BK282.out) hkp (fun hs_=>(fun e_=>(Kd.R_ne HO286.out BK282.out (by decide)) e_) hs_));have n4_:=Aside0.mk (Kd.R_reok rfl hy0 (fun k_ e_=>HO286.out.1 k_ e_));have n5_:=Aside0.mk (blk_kept (by (with_reducible repeat (first|refine blk_drewN ?_ _|refine blk_drew ?_|refine blk_alloc ?_ _));exact BK287.out) hkp (fun hs_=>(fun e_=>(Kd.R_ne HO286.out BK287.out (by decide)) e_) hs_));have n6_:=Aside0.mk (Kd.R_mono (ok':=fun k_=>some k_ ≠ (.slice Ao31 t279.length co31:Value).ownBlock) (Kd.R_keptB ((Kd.R_apart' HO292.out (Kd.R_typed HO286.out) (by decide))) hkp (fun k_ hk_ hs_=>absurd hs_ (by first|exact hk_.2|simp [hk_]))) (fun k_ hk_=>by first|exact hk_.1.1.2|simp [hk_]));have n7_:=Aside0.mk (blk_kept (by (with_reducible repeat (first|refine blk_drewN ?_ _|refine blk_drew ?_|refine blk_alloc ?_ _));exact BK293.out) hkp (fun hs_=>(fun e_=>(Kd.R_ne HO286.out BK293.out (by decide)) e_) hs_));have n8_:=Aside0.mk (Kd.R_mono (ok':=fun k_=>some k_ ≠ (.slice Ao26 t274.length co26:Value).ownBlock∧some k_ ≠ (.slice Ao38 t284.length co38:Value).ownBlock) (Kd.R_keptB (HO298.out) hkp (fun k_ hk_ hs_=>absurd hs_ (by first|exact hk_.2|simp [hk_]))) (fun k_ hk_=>by first|exact ⟨hk_.1.1.2,hk_.1.2⟩|simp [hk_]));have n9_:=Aside0.mk (hb);clear BK271;clear HO276;clear HO281;clear BK282;clear HO286;clear BK287;clear HO292;clear BK293;clear HO298;clear HB;have BK271:=n0_;have HO276:=n1_;have HO281:=n2_;have BK282:=n3_;have HO286:=n4_;have BK287:=n5_;have HO292:=n6_;have BK293:=n7_;have HO298:=n8_;have HB:=n9_;clear n0_ n1_ n2_ n3_ n4_ n5_ n6_ n7_ n8_ n9_;(try clear hb);(try clear hkp);(try clear hy0)))
   (try simp only [Act.put,List.setIfInBounds_toArray,List.set_cons_zero,List.set_cons_succ])
   go_cut [49] (fun v49 wc=>∃ (kq:Nat) (x49_19:Bool),v49=.bool x49_19∧Aside0 (laws_FnExactReadEvents.j0 kq a1 x49_19 a0_0 l0_1 t277 t278 t279 t288 t289 t290=some r)∧Aside0 (kq≤k)∧Aside0 (Kd.R k52 52 wc w.heap.size (fun k_=>some k_ ≠ ((.slice Ao45 t290.length co45):Value).ownBlock) (.slice Ao31 t279.length co31) t279)∧Aside0 (Kd.R k98 98 wc w.heap.size (fun _=>True) (.slice Ao38 t284.length co38) t301)∧Aside0 (Kd.R k52 52 wc w.heap.size (fun k_=>some k_ ≠ ((.slice Ao31 t279.length co31):Value).ownBlock) (.slice Ao45 t290.length co45) t290)∧Aside0 (wc.heap[gb271]?=some (.cells #[.int .i64 a0_0,(.slice A0_1 l0_1.length c0_1)] 24 (0,0)))∧Aside0 (wc.heap[gb282]?=some (.cells #[.int .i64 t277,.int .i64 t278,(.slice Ao31 t279.length co31)] 39 (0,0)))∧Aside0 (wc.heap[gb287]?=some (.cells #[.int .i64 t283,(.slice Ao38 t284.length co38)] 31 (0,0)))∧Aside0 (wc.heap[gb293]?=some (.cells #[.int .i64 t288,.int .i64 t289,(.slice Ao45 t290.length co45)] 39 (0,0)))∧Aside0 (Below w.heap.size w wc))
   case first =>
    have H:=HC20.out
    clear HC20
    by_cases c54:t300<0
    ·rw [if_pos c54] at H
     have c54b0:decide (t300<0)=true:=decide_eq_true c54
     clear c54
     (first|rw [c54b0]|(simp only [i64_w,i32_w];rw [c54b0])|skip)
     have H':=Aside0.mk H
     clear H
     go_wp2
     go_meet
     case rel=>exact ⟨_,(true),(by first|rfl|(simp;done)|(simp [*];done)),H',⟨by first|omega|exact Nat.le_refl _⟩,⟨by (with_reducible repeat (first|apply Kd.R_alloc|apply Kd.R_drewN|apply Kd.R_drew));exact HO281.out⟩,⟨by (with_reducible repeat (first|apply Kd.R_alloc|apply Kd.R_drewN|apply Kd.R_drew));exact Kd.R_mono HO286.out (fun _ hk=>trivial)⟩,⟨by (with_reducible repeat (first|apply Kd.R_alloc|apply Kd.R_drewN|apply Kd.R_drew));exact HO292.out⟩,⟨by (with_reducible repeat (first|refine blk_drewN ?_ _|refine blk_drew ?_|refine blk_alloc ?_ _));exact BK271.out⟩,⟨by (with_reducible repeat (first|refine blk_drewN ?_ _|refine blk_drew ?_|refine blk_alloc ?_ _));exact BK282.out⟩,⟨by (with_reducible repeat (first|refine blk_drewN ?_ _|refine blk_drew ?_|refine blk_alloc ?_ _));exact BK287.out⟩,⟨by (with_reducible repeat (first|refine blk_drewN ?_ _|refine blk_drew ?_|refine blk_alloc ?_ _));exact BK293.out⟩,⟨by repeat (first|(with_reducible first|exact HB.out|apply below_alloc|apply pw_below_drewN|apply below_drew1|refine below_set ?_ GE271.out|refine below_set ?_ GE282.out|refine below_set ?_ GE287.out|refine below_set ?_ GE293.out)|exact HB.out)⟩⟩
    rw [if_neg c54] at H
    have c54b0:decide (t300<0)=false:=decide_eq_false c54
    clear c54
    (first|rw [c54b0]|(simp only [i64_w,i32_w];rw [c54b0])|skip)
    replace H:=Option.bind_eq_some_iff.mp H
    obtain ⟨t302,A550,H⟩:=H
    replace H:(laws_FnExactReadEvents.j0 k a1 (!t302) a0_0 l0_1 t277 t278 t279 t288 t289 t290)=some r:=H
    have A55:=Aside0.mk A550
    clear A550
    have H':=Aside0.mk H
    clear H
    have hnb56:=NB293_271.out
    have hnc56:=NB271_293.out
    have hnb57:=NB293_282.out
    have hnc57:=NB282_293.out
    have hnb58:=NB293_287.out
    have hnc58:=NB287_293.out
    have hcz59_0:w53.cell? ⟨gb293,0,none⟩=some (.int .i64 t288):=(blk_cell BK293.out 0).trans rfl
    have hcz59_1:w53.cell? ⟨gb293,1,none⟩=some (.int .i64 t289):=(blk_cell BK293.out 1).trans rfl
    have hcz59_2:w53.cell? ⟨gb293,2,none⟩=some (.slice Ao45 t290.length co45):=(blk_cell BK293.out 2).trans rfl
    have hfz59_0:=blk_frozen BK293.out 0
    have hfz59_1:=blk_frozen BK293.out 1
    have hfz59_2:=blk_frozen BK293.out 2
    have hnb60:=NB282_271.out
    have hnc60:=NB271_282.out
    have hnb61:=NB282_287.out
    have hnc61:=NB287_282.out
    have hcz62_0:w53.cell? ⟨gb282,0,none⟩=some (.int .i64 t277):=(blk_cell BK282.out 0).trans rfl
    have hcz62_1:w53.cell? ⟨gb282,1,none⟩=some (.int .i64 t278):=(blk_cell BK282.out 1).trans rfl
    have hcz62_2:w53.cell? ⟨gb282,2,none⟩=some (.slice Ao31 t279.length co31):=(blk_cell BK282.out 2).trans rfl
    have hfz62_0:=blk_frozen BK282.out 0
    have hfz62_1:=blk_frozen BK282.out 1
    have hfz62_2:=blk_frozen BK282.out 2
    go_wp2_with (first|(go_at_call 17;(with_reducible refine (laws_eqHeard.calls k t288 t289 _ _ t290 t277 t278 _ _ t279 t302 _ ?side1 ?side2 ?side3 ?side4 A55.out).mono ?_);(case side1=>repeat (first|exact (Kd.R_reads' HO292.out).2.2|(with_reducible refine Kd.C_alloc ?_ _)|(with_reducible refine Kd.C_drewN ?_ _)|(with_reducible refine Kd.C_drew ?_)));(case side2=>exact (Kd.R_reads' HO292.out).2.1);(case side3=>repeat (first|exact (Kd.R_reads' HO281.out).2.2|(with_reducible refine Kd.C_alloc ?_ _)|(with_reducible refine Kd.C_drewN ?_ _)|(with_reducible refine Kd.C_drew ?_)));(case side4=>exact (Kd.R_reads' HO281.out).2.1);rintro e w63 ⟨rfl,hb⟩;have n0_:=Aside0.mk (Kd.R_below (by (with_reducible repeat (first|apply Kd.R_alloc|apply Kd.R_drewN|apply Kd.R_drew));exact HO276.out) hb);have n1_:=Aside0.mk (Kd.R_below (by (with_reducible repeat (first|apply Kd.R_alloc|apply Kd.R_drewN|apply Kd.R_drew));exact HO281.out) hb);have n2_:=Aside0.mk (Kd.R_below (by (with_reducible repeat (first|apply Kd.R_alloc|apply Kd.R_drewN|apply Kd.R_drew));exact HO286.out) hb);have n3_:=Aside0.mk (Kd.R_below (by (with_reducible repeat (first|apply Kd.R_alloc|apply Kd.R_drewN|apply Kd.R_drew));exact HO292.out) hb);have n4_:=Aside0.mk (Kd.R_below (by (with_reducible repeat (first|apply Kd.R_alloc|apply Kd.R_drewN|apply Kd.R_drew));exact HO298.out) hb);have n5_:=Aside0.mk (blk_below (g:=gb271) (o:=.cells #[.int .i64 a0_0,.slice A0_1 l0_1.length c0_1] 24 (0,0)) (by (with_reducible repeat (first|refine blk_drewN ?_ _|refine blk_drew ?_|refine blk_alloc ?_ _));exact BK271.out) hb);have n6_:=Aside0.mk (blk_below (g:=gb282) (o:=.cells #[.int .i64 t277,.int .i64 t278,.slice Ao31 t279.length co31] 39 (0,0)) (by (with_reducible repeat (first|refine blk_drewN ?_ _|refine blk_drew ?_|refine blk_alloc ?_ _));exact BK282.out) hb);have n7_:=Aside0.mk (blk_below (g:=gb287) (o:=.cells #[.int .i64 t283,.slice Ao38 t284.length co38] 31 (0,0)) (by (with_reducible repeat (first|refine blk_drewN ?_ _|refine blk_drew ?_|refine blk_alloc ?_ _));exact BK287.out) hb);have n8_:=Aside0.mk (blk_below (g:=gb293) (o:=.cells #[.int .i64 t288,.int .i64 t289,.slice Ao45 t290.length co45] 39 (0,0)) (by (with_reducible repeat (first|refine blk_drewN ?_ _|refine blk_drew ?_|refine blk_alloc ?_ _));exact BK293.out) hb);have n9_:=Aside0.mk (below_step (by repeat (first|(with_reducible first|exact HB.out|apply below_alloc|apply pw_below_drewN|apply below_drew1|refine below_set ?_ GE271.out|refine below_set ?_ GE282.out|refine below_set ?_ GE287.out|refine below_set ?_ GE293.out)|exact HB.out)) hb);clear HO276;clear HO281;clear HO286;clear HO292;clear HO298;clear BK271;clear BK282;clear BK287;clear BK293;clear HB;have HO276:=n0_;have HO281:=n1_;have HO286:=n2_;have HO292:=n3_;have HO298:=n4_;have BK271:=n5_;have BK282:=n6_;have BK287:=n7_;have BK293:=n8_;have HB:=n9_;clear n0_ n1_ n2_ n3_ n4_ n5_ n6_ n7_ n8_ n9_;(try clear hb);(try clear hb2);(try clear hk);(try clear hi)))
    go_meet
    case rel=>exact ⟨_,(!t302),(by first|rfl|(simp;done)|(simp [*];done)),H',⟨by first|omega|exact Nat.le_refl _⟩,⟨by (with_reducible repeat (first|apply Kd.R_alloc|apply Kd.R_drewN|apply Kd.R_drew));exact HO281.out⟩,⟨by (with_reducible repeat (first|apply Kd.R_alloc|apply Kd.R_drewN|apply Kd.R_drew));exact Kd.R_mono HO286.out (fun _ hk=>trivial)⟩,⟨by (with_reducible repeat (first|apply Kd.R_alloc|apply Kd.R_drewN|apply Kd.R_drew));exact HO292.out⟩,⟨by (with_reducible repeat (first|refine blk_drewN ?_ _|refine blk_drew ?_|refine blk_alloc ?_ _));exact BK271.out⟩,⟨by (with_reducible repeat (first|refine blk_drewN ?_ _|refine blk_drew ?_|refine blk_alloc ?_ _));exact BK282.out⟩,⟨by (with_reducible repeat (first|refine blk_drewN ?_ _|refine blk_drew ?_|refine blk_alloc ?_ _));exact BK287.out⟩,⟨by (with_reducible repeat (first|refine blk_drewN ?_ _|refine blk_drew ?_|refine blk_alloc ?_ _));exact BK293.out⟩,⟨by repeat (first|(with_reducible first|exact HB.out|apply below_alloc|apply pw_below_drewN|apply below_drew1|refine below_set ?_ GE271.out|refine below_set ?_ GE282.out|refine below_set ?_ GE287.out|refine below_set ?_ GE293.out)|exact HB.out)⟩⟩
   case rest =>
    clear HC20
    try clear c1
    try clear c2
    try clear p2
    try clear c3
    try clear c3b0
    try clear c3b1
    try clear c4
    try clear c5
    try clear c6
    try clear c6b0
    try clear c7
    try clear c10
    try clear c13
    try clear c15
    try clear c16
    try clear c17
    try clear c18
    try clear c29
    try clear c35
    try clear c36
    try clear c41
    try clear c42
    try clear c43
    try clear c54
    try clear c54b0
    try clear c56
    try clear c57
    try clear c58
    try clear c60
    try clear c61
    try clear hcz22_0
    try clear hcz22_1
    try clear hcz24_0
    try clear hcz24_1
    try clear hcz30_0
    try clear hcz30_1
    try clear hcz30_2
    try clear hcz32_0
    try clear hcz32_1
    try clear hcz37_0
    try clear hcz37_1
    try clear hcz44_0
    try clear hcz44_1
    try clear hcz44_2
    try clear hcz46_0
    try clear hcz46_1
    try clear hcz46_2
    try clear hcz52_0
    try clear hcz52_1
    try clear hcz59_0
    try clear hcz59_1
    try clear hcz59_2
    try clear hcz62_0
    try clear hcz62_1
    try clear hcz62_2
    try clear hcz8_0
    try clear hcz8_1
    try clear hfz22_0
    try clear hfz22_1
    try clear hfz24_0
    try clear hfz24_1
    try clear hfz30_0
    try clear hfz30_1
    try clear hfz30_2
    try clear hfz32_0
    try clear hfz32_1
    try clear hfz37_0
    try clear hfz37_1
    try clear hfz44_0
    try clear hfz44_1
    try clear hfz44_2
    try clear hfz46_0
    try clear hfz46_1
    try clear hfz46_2
    try clear hfz52_0
    try clear hfz52_1
    try clear hfz59_0
    try clear hfz59_1
    try clear hfz59_2
    try clear hfz62_0
    try clear hfz62_1
    try clear hfz62_2
    try clear hfz8_0
    try clear hfz8_1
    obtain ⟨kq,x49_19,rfl,HA,HJ19,HO_283002,HO_288001,HO_294002,BK271,BK282,BK287,BK293,HB⟩:=hcut
    have hl288001_19:=(Kd.R_reads' HO_288001.out).1
    rw [hl288001_19] at HO_288001
    (try simp only [hl288001_19])
    (try simp only [hl288001_19] at BK271)
    (try simp only [hl288001_19] at BK282)
    (try simp only [hl288001_19] at BK287)
    (try simp only [hl288001_19] at BK293)
    (try simp only [hl288001_19] at HO_283002)
    (try simp only [hl288001_19] at HO_294002)
    cases kq with
    | zero=>exact absurd HA.out (by simp [laws_FnExactReadEvents.j0])
    | succ kj19 =>
     have H:=HA.out
     clear HA
     simp only [laws_FnExactReadEvents.j0] at H
     by_cases c64:x49_19=true
     ·subst c64
      have H1:(some false)=some r:=by rw [if_pos rfl] at H;exact H
      clear H
      have H:=H1
      clear H1
      rw [HR_.out] at H
      cases H
     replace c64:=Bool.eq_false_iff.mpr c64
     subst c64
     have H1:((laws_markHeard.f kj19 t288 t289 t290 1).bind fun bt303=>((laws_heldHeard.f kj19 t288 t289 bt303.2 1).bind fun t305=>(if t305<0 then (some false) else (if t305=bt303.1 then ((laws_toLayout.f kj19 a0_0 l0_1).bind fun bt306=>((impl_ReadEvents.f bt306.1 bt306.2 a1).bind fun bt310=>((laws_eqHeard.f kj19 bt310.1 bt310.2.1 bt310.2.2 t277 t278 t279).bind fun t316=>(if t316=true then ((laws_heldHeard.f kj19 t288 t289 bt303.2 1).bind fun t317=>(if t317<0 then (some false) else (if t317=bt303.1 then (some true) else (some false)))) else (some false))))) else (some false)))))=some r:=by rw [if_neg (show ¬ (false=true) by decide)] at H;exact H
     clear H
     have H:=H1
     clear H1
     replace H:=Option.bind_eq_some_iff.mp H
     obtain ⟨⟨t303,t304⟩,A650,H⟩:=H
     replace H:((laws_heldHeard.f kj19 t288 t289 t304 1).bind fun t305=>(if t305<0 then (some false) else (if t305=t303 then ((laws_toLayout.f kj19 a0_0 l0_1).bind fun bt306=>((impl_ReadEvents.f bt306.1 bt306.2 a1).bind fun bt310=>((laws_eqHeard.f kj19 bt310.1 bt310.2.1 bt310.2.2 t277 t278 t279).bind fun t316=>(if t316=true then ((laws_heldHeard.f kj19 t288 t289 t304 1).bind fun t317=>(if t317<0 then (some false) else (if t317=t303 then (some true) else (some false)))) else (some false))))) else (some false))))=some r:=H
     have A65:=Aside0.mk A650
     clear A650
     replace H:=Option.bind_eq_some_iff.mp H
     obtain ⟨t305,A660,H⟩:=H
     replace H:(if t305<0 then (some false) else (if t305=t303 then ((laws_toLayout.f kj19 a0_0 l0_1).bind fun bt306=>((impl_ReadEvents.f bt306.1 bt306.2 a1).bind fun bt310=>((laws_eqHeard.f kj19 bt310.1 bt310.2.1 bt310.2.2 t277 t278 t279).bind fun t316=>(if t316=true then ((laws_heldHeard.f kj19 t288 t289 t304 1).bind fun t317=>(if t317<0 then (some false) else (if t317=t303 then (some true) else (some false)))) else (some false))))) else (some false)))=some r:=H
     have A66:=Aside0.mk A660
     clear A660
     by_cases c67:t305<0
     ·rw [if_pos c67] at H
      have c67b0:decide (t305<0)=true:=decide_eq_true c67
      clear c67
      rw [HR_.out] at H
      cases H
     rw [if_neg c67] at H
     have c67b0:decide (t305<0)=false:=decide_eq_false c67
     clear c67
     by_cases c68:t305=t303
     ·rw [if_pos c68] at H
      have c68b0:(t305==t303)=true:=beq_iff_eq.mpr c68
      have c68b1:(t305 != t303)=false:=bne_eq_false_iff_eq.mpr c68
      clear c68
      replace H:=Option.bind_eq_some_iff.mp H
      obtain ⟨⟨t306,t307⟩,A690,H⟩:=H
      replace H:((impl_ReadEvents.f t306 t307 a1).bind fun bt310=>((laws_eqHeard.f kj19 bt310.1 bt310.2.1 bt310.2.2 t277 t278 t279).bind fun t316=>(if t316=true then ((laws_heldHeard.f kj19 t288 t289 t304 1).bind fun t317=>(if t317<0 then (some false) else (if t317=t303 then (some true) else (some false)))) else (some false))))=some r:=H
      have A69:=Aside0.mk A690
      clear A690
      replace H:=Option.bind_eq_some_iff.mp H
      obtain ⟨⟨t310,t311,t312⟩,A700,H⟩:=H
      replace H:((laws_eqHeard.f kj19 t310 t311 t312 t277 t278 t279).bind fun t316=>(if t316=true then ((laws_heldHeard.f kj19 t288 t289 t304 1).bind fun t317=>(if t317<0 then (some false) else (if t317=t303 then (some true) else (some false)))) else (some false)))=some r:=H
      have A70:=Aside0.mk A700
      clear A700
      replace H:=Option.bind_eq_some_iff.mp H
      obtain ⟨t316,A710,H⟩:=H
      replace H:(if t316=true then ((laws_heldHeard.f kj19 t288 t289 t304 1).bind fun t317=>(if t317<0 then (some false) else (if t317=t303 then (some true) else (some false)))) else (some false))=some r:=H
      have A71:=Aside0.mk A710
      clear A710
      by_cases c72:t316=true
      ·subst c72
       have H1:((laws_heldHeard.f kj19 t288 t289 t304 1).bind fun t317=>(if t317<0 then (some false) else (if t317=t303 then (some true) else (some false))))=some r:=by rw [if_pos rfl] at H;exact H
       clear H
       have H:=H1
       clear H1
       replace H:=Option.bind_eq_some_iff.mp H
       obtain ⟨t317,A730,H⟩:=H
       replace H:(if t317<0 then (some false) else (if t317=t303 then (some true) else (some false)))=some r:=H
       have A73:=Aside0.mk A730
       clear A730
       by_cases c74:t317<0
       ·rw [if_pos c74] at H
        have c74b0:decide (t317<0)=true:=decide_eq_true c74
        clear c74
        rw [HR_.out] at H
        cases H
       rw [if_neg c74] at H
       have c74b0:decide (t317<0)=false:=decide_eq_false c74
       clear c74
       by_cases c75:t317=t303
       ·rw [if_pos c75] at H
        have c75b0:(t317==t303)=true:=beq_iff_eq.mpr c75
        have c75b1:(t317 != t303)=false:=bne_eq_false_iff_eq.mpr c75
        clear c75
        obtain rfl:=Option.some.inj H
        have hnb76:=NB293_271.out
        have hnc76:=NB271_293.out
        have hnb77:=NB293_282.out
        have hnc77:=NB282_293.out
        have hnb78:=NB293_287.out
        have hnc78:=NB287_293.out
        have hcz79_0:wc.cell? ⟨gb293,0,none⟩=some (.int .i64 t288):=(blk_cell BK293.out 0).trans rfl
        have hcz79_1:wc.cell? ⟨gb293,1,none⟩=some (.int .i64 t289):=(blk_cell BK293.out 1).trans rfl
        have hcz79_2:wc.cell? ⟨gb293,2,none⟩=some (.slice Ao45 t290.length co45):=(blk_cell BK293.out 2).trans rfl
        have hfz79_0:=blk_frozen BK293.out 0
        have hfz79_1:=blk_frozen BK293.out 1
        have hfz79_2:=blk_frozen BK293.out 2
        go_wp2_with (first|((with_reducible refine gate_callee (f:=19) rfl ?_);refine goesL_ (some 52) rfl rfl Tryd.func19 (by kernel_rfl) rfl #[.agg #[.int .i64 t288,.int .i64 t289,.slice Ao45 t290.length co45],.int .i64 1] rfl (by (try simp only [List.map_toArray,List.map_cons,List.map_nil]);first|done|rfl|(simp only [List.length_drop,List.length_take];rfl)) ?_;(with_reducible refine (laws_markHeard.calls kj19 t288 t289 (fun k_=>some k_=(.slice Ao45 t290.length co45:Value).ownBlock) (.slice Ao45 t290.length co45) t290 1 t303 t304 w _ ?side1 ?side2 A65.out).mono ?_);(case side1=>repeat (first|(with_reducible first|exact HB.out|apply below_alloc|apply pw_below_drewN|apply below_drew1|refine below_set ?_ GE271.out|refine below_set ?_ GE282.out|refine below_set ?_ GE287.out|refine below_set ?_ GE293.out)|exact HB.out));(case side2=>exact Kd.R_tight rfl HO_294002.out);rintro e w80 ⟨rfl,hy0,hb,hkp⟩;refine ⟨_,rfl,?_⟩;have n0_:=Aside0.mk (Kd.R_mono (ok':=fun k_=>some k_ ≠ (.slice Ao45 t290.length co45:Value).ownBlock) (Kd.R_keptB (HO_283002.out) hkp (fun k_ hk_ hs_=>absurd hs_ (by first|exact hk_|simp [hk_]))) (fun k_ hk_=>by first|exact hk_.1|simp [hk_]));have n1_:=Aside0.mk (Kd.R_mono (ok':=fun k_=>True) (Kd.R_keptB ((Kd.R_apart' HO_288001.out (Kd.R_typed HO_294002.out) (by decide))) hkp (fun k_ hk_ hs_=>absurd hs_ (by first|exact hk_.2|simp [hk_]))) (fun k_ hk_=>trivial));have n2_:=Aside0.mk (Kd.R_reok rfl hy0 (fun k_ e_=>HO_294002.out.1 k_ e_));have n3_:=Aside0.mk (blk_kept (by (with_reducible repeat (first|refine blk_drewN ?_ _|refine blk_drew ?_|refine blk_alloc ?_ _));exact BK271.out) hkp (fun hs_=>(fun e_=>(Kd.R_ne HO_294002.out BK271.out (by decide)) e_) hs_));have n4_:=Aside0.mk (blk_kept (by (with_reducible repeat (first|refine blk_drewN ?_ _|refine blk_drew ?_|refine blk_alloc ?_ _));exact BK282.out) hkp (fun hs_=>(fun e_=>(Kd.R_ne HO_294002.out BK282.out (by decide)) e_) hs_));have n5_:=Aside0.mk (blk_kept (by (with_reducible repeat (first|refine blk_drewN ?_ _|refine blk_drew ?_|refine blk_alloc ?_ _));exact BK287.out) hkp (fun hs_=>(fun e_=>(Kd.R_ne HO_294002.out BK287.out (by decide)) e_) hs_));have n6_:=Aside0.mk (blk_kept (by (with_reducible repeat (first|refine blk_drewN ?_ _|refine blk_drew ?_|refine blk_alloc ?_ _));exact BK293.out) hkp (fun hs_=>(fun e_=>(Kd.R_ne HO_294002.out BK293.out (by decide)) e_) hs_));have n7_:=Aside0.mk (hb);clear HO_283002;clear HO_288001;clear HO_294002;clear BK271;clear BK282;clear BK287;clear BK293;clear HB;have HO_283002:=n0_;have HO_288001:=n1_;have HO_294002:=n2_;have BK271:=n3_;have BK282:=n4_;have BK287:=n5_;have BK293:=n6_;have HB:=n7_;clear n0_ n1_ n2_ n3_ n4_ n5_ n6_ n7_;(try clear hb);(try clear hkp);(try clear hy0);have hcz81_0:w80.cell? ⟨gb293,0,none⟩=some (.int .i64 t288):=(blk_cell BK293.out 0).trans rfl;have hcz81_1:w80.cell? ⟨gb293,1,none⟩=some (.int .i64 t289):=(blk_cell BK293.out 1).trans rfl;have hcz81_2:w80.cell? ⟨gb293,2,none⟩=some (.slice Ao45 t290.length co45):=(blk_cell BK293.out 2).trans rfl;have hfz81_0:=blk_frozen BK293.out 0;have hfz81_1:=blk_frozen BK293.out 1;have hfz81_2:=blk_frozen BK293.out 2)|((with_reducible refine gate_callee (f:=20) rfl ?_);refine goesL_ (some 55) rfl rfl Tryd.func20 (by kernel_rfl) rfl #[.agg #[.int .i64 t288,.int .i64 t289,.slice Ao45 t304.length co45],.int .i64 1] rfl (by (try simp only [List.map_toArray,List.map_cons,List.map_nil]);first|done|(rw [show t304.length=t290.length from (Kd.R_reads' HO_294002.out).1.symm] <;> rfl)|rfl|(simp only [List.length_drop,List.length_take];rfl)) ?_;(with_reducible refine (laws_heldHeard.calls kj19 t288 t289 _ _ t304 1 t305 _ ?side1 ?side2 A66.out).mono ?_);(case side1=>repeat (first|exact (Kd.R_reads' HO_294002.out).2.2|(with_reducible refine Kd.C_alloc ?_ _)|(with_reducible refine Kd.C_drewN ?_ _)|(with_reducible refine Kd.C_drew ?_)));(case side2=>rw [show t304.length=t290.length from (Kd.R_reads' HO_294002.out).1.symm];exact (Kd.R_reads' HO_294002.out).2.1);rintro e w82 ⟨rfl,hb⟩;refine ⟨_,rfl,?_⟩;have n0_:=Aside0.mk (Kd.R_below (by (with_reducible repeat (first|apply Kd.R_alloc|apply Kd.R_drewN|apply Kd.R_drew));exact HO_283002.out) hb);have n1_:=Aside0.mk (Kd.R_below (by (with_reducible repeat (first|apply Kd.R_alloc|apply Kd.R_drewN|apply Kd.R_drew));exact HO_288001.out) hb);have n2_:=Aside0.mk (Kd.R_below (by (with_reducible repeat (first|apply Kd.R_alloc|apply Kd.R_drewN|apply Kd.R_drew));exact HO_294002.out) hb);have n3_:=Aside0.mk (blk_below (g:=gb271) (o:=.cells #[.int .i64 a0_0,.slice A0_1 l0_1.length c0_1] 24 (0,0)) (by (with_reducible repeat (first|refine blk_drewN ?_ _|refine blk_drew ?_|refine blk_alloc ?_ _));exact BK271.out) hb);have n4_:=Aside0.mk (blk_below (g:=gb282) (o:=.cells #[.int .i64 t277,.int .i64 t278,.slice Ao31 t279.length co31] 39 (0,0)) (by (with_reducible repeat (first|refine blk_drewN ?_ _|refine blk_drew ?_|refine blk_alloc ?_ _));exact BK282.out) hb);have n5_:=Aside0.mk (blk_below (g:=gb287) (o:=.cells #[.int .i64 t283,.slice Ao38 t301.length co38] 31 (0,0)) (by (with_reducible repeat (first|refine blk_drewN ?_ _|refine blk_drew ?_|refine blk_alloc ?_ _));exact BK287.out) hb);have n6_:=Aside0.mk (blk_below (g:=gb293) (o:=.cells #[.int .i64 t288,.int .i64 t289,.slice Ao45 t290.length co45] 39 (0,0)) (by (with_reducible repeat (first|refine blk_drewN ?_ _|refine blk_drew ?_|refine blk_alloc ?_ _));exact BK293.out) hb);have n7_:=Aside0.mk (below_step (by repeat (first|(with_reducible first|exact HB.out|apply below_alloc|apply pw_below_drewN|apply below_drew1|refine below_set ?_ GE271.out|refine below_set ?_ GE282.out|refine below_set ?_ GE287.out|refine below_set ?_ GE293.out)|exact HB.out)) hb);clear HO_283002;clear HO_288001;clear HO_294002;clear BK271;clear BK282;clear BK287;clear BK293;clear HB;have HO_283002:=n0_;have HO_288001:=n1_;have HO_294002:=n2_;have BK271:=n3_;have BK282:=n4_;have BK287:=n5_;have BK293:=n6_;have HB:=n7_;clear n0_ n1_ n2_ n3_ n4_ n5_ n6_ n7_;(try clear hb);(try clear hb2);(try clear hk);(try clear hi);have hnb83:=NB271_282.out;have hnc83:=NB282_271.out;have hnb84:=NB271_287.out;have hnc84:=NB287_271.out;have hcz85_0:w82.cell? ⟨gb271,0,none⟩=some (.int .i64 a0_0):=(blk_cell BK271.out 0).trans rfl;have hcz85_1:w82.cell? ⟨gb271,1,none⟩=some (.slice A0_1 l0_1.length c0_1):=(blk_cell BK271.out 1).trans rfl;have hfz85_0:=blk_frozen BK271.out 0;have hfz85_1:=blk_frozen BK271.out 1)|((with_reducible refine gate_callee (f:=10) rfl ?_);refine goesL_ (some 62) rfl rfl Tryd.func10 (by kernel_rfl) rfl #[.agg #[.int .i64 a0_0,.slice A0_1 l0_1.length c0_1]] rfl (by (try simp only [List.map_toArray,List.map_cons,List.map_nil]);first|done|rfl|(simp only [List.length_drop,List.length_take];rfl)) ?_;(with_reducible refine (laws_toLayout.calls kj19 a0_0 _ _ l0_1 t306 t307 _ ?side1 ?side2 A69.out).mono ?_);(case side1=>repeat (first|exact (Kd.C_below HR0_1.out HB.out)|(with_reducible refine Kd.C_alloc ?_ _)|(with_reducible refine Kd.C_drewN ?_ _)|(with_reducible refine Kd.C_drew ?_)));(case side2=>exact HC0_1.out);rintro e w86 ⟨v308,rfl,ho0,hb⟩;refine ⟨_,rfl,?_⟩;have n0_:=Aside0.mk (Kd.R_below (by (with_reducible repeat (first|apply Kd.R_alloc|apply Kd.R_drewN|apply Kd.R_drew));exact HO_283002.out) hb);have n1_:=Aside0.mk (Kd.R_elder' (by (with_reducible repeat (first|apply Kd.R_alloc|apply Kd.R_drewN|apply Kd.R_drew));exact HO_288001.out) (Kd.R_base ho0) hb);have n2_:=Aside0.mk (Kd.R_below (by (with_reducible repeat (first|apply Kd.R_alloc|apply Kd.R_drewN|apply Kd.R_drew));exact HO_294002.out) hb);have n3_:=Aside0.mk (Kd.R_lower (Kd.R_new' ho0 (Kd.R_lt (by (with_reducible repeat (first|apply Kd.R_alloc|apply Kd.R_drewN|apply Kd.R_drew));exact HO_288001.out))) (below_size (by repeat (first|(with_reducible first|exact HB.out|apply below_alloc|apply pw_below_drewN|apply below_drew1|refine below_set ?_ GE271.out|refine below_set ?_ GE282.out|refine below_set ?_ GE287.out|refine below_set ?_ GE293.out)|exact HB.out))));have n4_:=Aside0.mk (blk_below (g:=gb271) (o:=.cells #[.int .i64 a0_0,.slice A0_1 l0_1.length c0_1] 24 (0,0)) (by (with_reducible repeat (first|refine blk_drewN ?_ _|refine blk_drew ?_|refine blk_alloc ?_ _));exact BK271.out) hb);have n5_:=Aside0.mk (blk_below (g:=gb282) (o:=.cells #[.int .i64 t277,.int .i64 t278,.slice Ao31 t279.length co31] 39 (0,0)) (by (with_reducible repeat (first|refine blk_drewN ?_ _|refine blk_drew ?_|refine blk_alloc ?_ _));exact BK282.out) hb);have n6_:=Aside0.mk (blk_below (g:=gb287) (o:=.cells #[.int .i64 t283,.slice Ao38 t301.length co38] 31 (0,0)) (by (with_reducible repeat (first|refine blk_drewN ?_ _|refine blk_drew ?_|refine blk_alloc ?_ _));exact BK287.out) hb);have n7_:=Aside0.mk (blk_below (g:=gb293) (o:=.cells #[.int .i64 t288,.int .i64 t289,.slice Ao45 t290.length co45] 39 (0,0)) (by (with_reducible repeat (first|refine blk_drewN ?_ _|refine blk_drew ?_|refine blk_alloc ?_ _));exact BK293.out) hb);have n8_:=Aside0.mk (below_step (by repeat (first|(with_reducible first|exact HB.out|apply below_alloc|apply pw_below_drewN|apply below_drew1|refine below_set ?_ GE271.out|refine below_set ?_ GE282.out|refine below_set ?_ GE287.out|refine below_set ?_ GE293.out)|exact HB.out)) hb);clear HO_283002;clear HO_288001;clear HO_294002;clear BK271;clear BK282;clear BK287;clear BK293;clear HB;have HO_283002:=n0_;have HO_288001:=n1_;have HO_294002:=n2_;have HO309:=n3_;have BK271:=n4_;have BK282:=n5_;have BK287:=n6_;have BK293:=n7_;have HB:=n8_;clear n0_ n1_ n2_ n3_ n4_ n5_ n6_ n7_ n8_;(try clear hb);(try clear hb2);(try clear hk);(try clear hi);(try clear ho0);obtain ⟨Ao87,co87,eo87⟩:=Kd.R_slice HO309.out;subst eo87)|((with_reducible refine gate_callee (f:=16) rfl ?_);refine goesL_ (some 64) rfl rfl Tryd.func16 (by kernel_rfl) rfl #[.agg #[.int .i64 t306,.slice Ao87 t307.length co87],.string a1] rfl (by (try simp only [List.map_toArray,List.map_cons,List.map_nil]);first|done|rfl|(simp only [List.length_drop,List.length_take];rfl)) ?_;(with_reducible refine (impl_ReadEvents.calls t306 _ _ t307 a1 t310 t311 t312 _ ?side1 ?side2 A70.out (HT_.out.nx (by repeat (first|(with_reducible refine below_set ?_ GE293.out)|(with_reducible first|exact HB.out|apply below_alloc|apply pw_below_drewN|apply below_drew1)|exact HB.out)))).mono ?_);(case side1=>repeat (first|exact (Kd.R_reads' HO309.out).2.2|(with_reducible refine Kd.C_alloc ?_ _)|(with_reducible refine Kd.C_drewN ?_ _)|(with_reducible refine Kd.C_drew ?_)));(case side2=>exact (Kd.R_reads' HO309.out).2.1);rintro e w88 ⟨v313,rfl,ho0,hb⟩;refine ⟨_,rfl,?_⟩;have n0_:=Aside0.mk (Kd.R_elder' (by (with_reducible repeat (first|apply Kd.R_alloc|apply Kd.R_drewN|apply Kd.R_drew));exact HO_283002.out) (Kd.R_base ho0) hb);have n1_:=Aside0.mk (Kd.R_below (by (with_reducible repeat (first|apply Kd.R_alloc|apply Kd.R_drewN|apply Kd.R_drew));exact HO_288001.out) hb);have n2_:=Aside0.mk (Kd.R_elder' (by (with_reducible repeat (first|apply Kd.R_alloc|apply Kd.R_drewN|apply Kd.R_drew));exact HO_294002.out) (Kd.R_base ho0) hb);have n3_:=Aside0.mk (Kd.R_below (by (with_reducible repeat (first|apply Kd.R_alloc|apply Kd.R_drewN|apply Kd.R_drew));exact HO309.out) hb);have n4_:=Aside0.mk (Kd.R_lower (Kd.R_new' (Kd.R_new' ho0 (Kd.R_lt (by (with_reducible repeat (first|apply Kd.R_alloc|apply Kd.R_drewN|apply Kd.R_drew));exact HO_283002.out))) (Kd.R_lt (by (with_reducible repeat (first|apply Kd.R_alloc|apply Kd.R_drewN|apply Kd.R_drew));exact HO_294002.out))) (below_size (by repeat (first|(with_reducible first|exact HB.out|apply below_alloc|apply pw_below_drewN|apply below_drew1|refine below_set ?_ GE271.out|refine below_set ?_ GE282.out|refine below_set ?_ GE287.out|refine below_set ?_ GE293.out)|exact HB.out))));have n5_:=Aside0.mk (blk_below (g:=gb271) (o:=.cells #[.int .i64 a0_0,.slice A0_1 l0_1.length c0_1] 24 (0,0)) (by (with_reducible repeat (first|refine blk_drewN ?_ _|refine blk_drew ?_|refine blk_alloc ?_ _));exact BK271.out) hb);have n6_:=Aside0.mk (blk_below (g:=gb282) (o:=.cells #[.int .i64 t277,.int .i64 t278,.slice Ao31 t279.length co31] 39 (0,0)) (by (with_reducible repeat (first|refine blk_drewN ?_ _|refine blk_drew ?_|refine blk_alloc ?_ _));exact BK282.out) hb);have n7_:=Aside0.mk (blk_below (g:=gb287) (o:=.cells #[.int .i64 t283,.slice Ao38 t301.length co38] 31 (0,0)) (by (with_reducible repeat (first|refine blk_drewN ?_ _|refine blk_drew ?_|refine blk_alloc ?_ _));exact BK287.out) hb);have n8_:=Aside0.mk (blk_below (g:=gb293) (o:=.cells #[.int .i64 t288,.int .i64 t289,.slice Ao45 t290.length co45] 39 (0,0)) (by (with_reducible repeat (first|refine blk_drewN ?_ _|refine blk_drew ?_|refine blk_alloc ?_ _));exact BK293.out) hb);have n9_:=Aside0.mk (below_step (by repeat (first|(with_reducible first|exact HB.out|apply below_alloc|apply pw_below_drewN|apply below_drew1|refine below_set ?_ GE271.out|refine below_set ?_ GE282.out|refine below_set ?_ GE287.out|refine below_set ?_ GE293.out)|exact HB.out)) hb);clear HO_283002;clear HO_288001;clear HO_294002;clear HO309;clear BK271;clear BK282;clear BK287;clear BK293;clear HB;have HO_283002:=n0_;have HO_288001:=n1_;have HO_294002:=n2_;have HO309:=n3_;have HO314:=n4_;have BK271:=n5_;have BK282:=n6_;have BK287:=n7_;have BK293:=n8_;have HB:=n9_;clear n0_ n1_ n2_ n3_ n4_ n5_ n6_ n7_ n8_ n9_;(try clear hb);(try clear hb2);(try clear hk);(try clear hi);(try clear ho0))|((with_reducible refine gate_dst (N:=12) rfl ?_);refine box_event ?hg (N:=12) ?hd (cs:=#[.int .i64 0,.int .i64 0,.slice none 0 0]) (t:=39) ?hr ?_;(case hd=>rfl);(case hg=>rfl);(case hr=>first|(go_simp;done)|(go_simp;rfl));intro gb315 hg w89 hbox hb;have n0_:=Aside0.mk (Kd.R_below (by (with_reducible repeat (first|apply Kd.R_alloc|apply Kd.R_drewN|apply Kd.R_drew));exact HO_283002.out) hb);have n1_:=Aside0.mk (Kd.R_below (by (with_reducible repeat (first|apply Kd.R_alloc|apply Kd.R_drewN|apply Kd.R_drew));exact HO_288001.out) hb);have n2_:=Aside0.mk (Kd.R_below (by (with_reducible repeat (first|apply Kd.R_alloc|apply Kd.R_drewN|apply Kd.R_drew));exact HO_294002.out) hb);have n3_:=Aside0.mk (Kd.R_below (by (with_reducible repeat (first|apply Kd.R_alloc|apply Kd.R_drewN|apply Kd.R_drew));exact HO309.out) hb);have n4_:=Aside0.mk (Kd.R_below (by (with_reducible repeat (first|apply Kd.R_alloc|apply Kd.R_drewN|apply Kd.R_drew));exact HO314.out) hb);have n5_:=Aside0.mk (blk_below (g:=gb271) (o:=.cells #[.int .i64 a0_0,.slice A0_1 l0_1.length c0_1] 24 (0,0)) (by (with_reducible repeat (first|refine blk_drewN ?_ _|refine blk_drew ?_|refine blk_alloc ?_ _));exact BK271.out) hb);have n6_:=Aside0.mk (blk_below (g:=gb282) (o:=.cells #[.int .i64 t277,.int .i64 t278,.slice Ao31 t279.length co31] 39 (0,0)) (by (with_reducible repeat (first|refine blk_drewN ?_ _|refine blk_drew ?_|refine blk_alloc ?_ _));exact BK282.out) hb);have n7_:=Aside0.mk (blk_below (g:=gb287) (o:=.cells #[.int .i64 t283,.slice Ao38 t301.length co38] 31 (0,0)) (by (with_reducible repeat (first|refine blk_drewN ?_ _|refine blk_drew ?_|refine blk_alloc ?_ _));exact BK287.out) hb);have n8_:=Aside0.mk (blk_below (g:=gb293) (o:=.cells #[.int .i64 t288,.int .i64 t289,.slice Ao45 t290.length co45] 39 (0,0)) (by (with_reducible repeat (first|refine blk_drewN ?_ _|refine blk_drew ?_|refine blk_alloc ?_ _));exact BK293.out) hb);have n9_:=Aside0.mk (below_step (by repeat (first|(with_reducible first|exact HB.out|apply below_alloc|apply pw_below_drewN|apply below_drew1|refine below_set ?_ GE271.out|refine below_set ?_ GE282.out|refine below_set ?_ GE287.out|refine below_set ?_ GE293.out)|exact HB.out)) hb);have n10_:=Aside0.mk (hbox);have n11_:=Aside0.mk ((by rw [hg];exact (below_size (by repeat (first|(with_reducible first|exact HB.out|apply below_alloc|apply pw_below_drewN|apply below_drew1|refine below_set ?_ GE271.out|refine below_set ?_ GE282.out|refine below_set ?_ GE287.out|refine below_set ?_ GE293.out)|exact HB.out))):w.heap.size≤gb315));have n12_:=Aside0.mk ((by rw [hg];exact (below_size (by repeat (first|(with_reducible first|exact HB.out|apply below_alloc|apply pw_below_drewN|apply below_drew1|refine below_set ?_ GE271.out|refine below_set ?_ GE282.out|refine below_set ?_ GE287.out|refine below_set ?_ GE293.out)|exact HB.out))):w.heap.size≤gb315));have n13_:=Aside0.mk ((by rw [hg];exact Nat.ne_of_lt (blk_lt (g:=gb271) (o:=.cells #[.int .i64 a0_0,.slice A0_1 l0_1.length c0_1] 24 (0,0)) (by (with_reducible repeat (first|refine blk_drewN ?_ _|refine blk_drew ?_|refine blk_alloc ?_ _));exact BK271.out)):gb271 ≠ gb315));have n14_:=Aside0.mk ((by rw [hg];exact Nat.ne_of_gt (blk_lt (g:=gb271) (o:=.cells #[.int .i64 a0_0,.slice A0_1 l0_1.length c0_1] 24 (0,0)) (by (with_reducible repeat (first|refine blk_drewN ?_ _|refine blk_drew ?_|refine blk_alloc ?_ _));exact BK271.out)):gb315 ≠ gb271));have n15_:=Aside0.mk ((by rw [hg];exact Nat.ne_of_lt (blk_lt (g:=gb282) (o:=.cells #[.int .i64 t277,.int .i64 t278,.slice Ao31 t279.length co31] 39 (0,0)) (by (with_reducible repeat (first|refine blk_drewN ?_ _|refine blk_drew ?_|refine blk_alloc ?_ _));exact BK282.out)):gb282 ≠ gb315));have n16_:=Aside0.mk ((by rw [hg];exact Nat.ne_of_gt (blk_lt (g:=gb282) (o:=.cells #[.int .i64 t277,.int .i64 t278,.slice Ao31 t279.length co31] 39 (0,0)) (by (with_reducible repeat (first|refine blk_drewN ?_ _|refine blk_drew ?_|refine blk_alloc ?_ _));exact BK282.out)):gb315 ≠ gb282));have n17_:=Aside0.mk ((by rw [hg];exact Nat.ne_of_lt (blk_lt (g:=gb287) (o:=.cells #[.int .i64 t283,.slice Ao38 t301.length co38] 31 (0,0)) (by (with_reducible repeat (first|refine blk_drewN ?_ _|refine blk_drew ?_|refine blk_alloc ?_ _));exact BK287.out)):gb287 ≠ gb315));have n18_:=Aside0.mk ((by rw [hg];exact Nat.ne_of_gt (blk_lt (g:=gb287) (o:=.cells #[.int .i64 t283,.slice Ao38 t301.length co38] 31 (0,0)) (by (with_reducible repeat (first|refine blk_drewN ?_ _|refine blk_drew ?_|refine blk_alloc ?_ _));exact BK287.out)):gb315 ≠ gb287));have n19_:=Aside0.mk ((by rw [hg];exact Nat.ne_of_lt (blk_lt (g:=gb293) (o:=.cells #[.int .i64 t288,.int .i64 t289,.slice Ao45 t290.length co45] 39 (0,0)) (by (with_reducible repeat (first|refine blk_drewN ?_ _|refine blk_drew ?_|refine blk_alloc ?_ _));exact BK293.out)):gb293 ≠ gb315));have n20_:=Aside0.mk ((by rw [hg];exact Nat.ne_of_gt (blk_lt (g:=gb293) (o:=.cells #[.int .i64 t288,.int .i64 t289,.slice Ao45 t290.length co45] 39 (0,0)) (by (with_reducible repeat (first|refine blk_drewN ?_ _|refine blk_drew ?_|refine blk_alloc ?_ _));exact BK293.out)):gb315 ≠ gb293));clear HO_283002;clear HO_288001;clear HO_294002;clear HO309;clear HO314;clear BK271;clear BK282;clear BK287;clear BK293;clear HB;have HO_283002:=n0_;have HO_288001:=n1_;have HO_294002:=n2_;have HO309:=n3_;have HO314:=n4_;have BK271:=n5_;have BK282:=n6_;have BK287:=n7_;have BK293:=n8_;have HB:=n9_;have BK315:=n10_;have GW315:=n11_;have GE315:=n12_;have NB271_315:=n13_;have NB315_271:=n14_;have NB282_315:=n15_;have NB315_282:=n16_;have NB287_315:=n17_;have NB315_287:=n18_;have NB293_315:=n19_;have NB315_293:=n20_;clear n0_ n1_ n2_ n3_ n4_ n5_ n6_ n7_ n8_ n9_ n10_ n11_ n12_ n13_ n14_ n15_ n16_ n17_ n18_ n19_ n20_;clear hb hbox hg;have hnb90:=NB315_271.out;have hnc90:=NB271_315.out;have hnb91:=NB315_282.out;have hnc91:=NB282_315.out;have hnb92:=NB315_287.out;have hnc92:=NB287_315.out;have hnb93:=NB315_293.out;have hnc93:=NB293_315.out;have hcz94_0:w89.cell? ⟨gb315,0,none⟩=some (.int .i64 0):=(blk_cell BK315.out 0).trans rfl;have hcz94_1:w89.cell? ⟨gb315,1,none⟩=some (.int .i64 0):=(blk_cell BK315.out 1).trans rfl;have hcz94_2:w89.cell? ⟨gb315,2,none⟩=some (.slice none 0 0):=(blk_cell BK315.out 2).trans rfl;have hfz94_0:=blk_frozen BK315.out 0;have hfz94_1:=blk_frozen BK315.out 1;have hfz94_2:=blk_frozen BK315.out 2;obtain ⟨Ao95,co95,eo95⟩:=Kd.R_slice HO314.out;subst eo95;have hnb96:=NB282_287.out;have hnc96:=NB287_282.out;have hcz97_0:w89.cell? ⟨gb282,0,none⟩=some (.int .i64 t277):=(blk_cell BK282.out 0).trans rfl;have hcz97_1:w89.cell? ⟨gb282,1,none⟩=some (.int .i64 t278):=(blk_cell BK282.out 1).trans rfl;have hcz97_2:w89.cell? ⟨gb282,2,none⟩=some (.slice Ao31 t279.length co31):=(blk_cell BK282.out 2).trans rfl;have hfz97_0:=blk_frozen BK282.out 0;have hfz97_1:=blk_frozen BK282.out 1;have hfz97_2:=blk_frozen BK282.out 2)|((with_reducible refine gate_callee (f:=17) rfl ?_);refine goesL_ (some 67) rfl rfl Tryd.func17 (by kernel_rfl) rfl #[.agg #[.int .i64 t310,.int .i64 t311,.slice Ao95 t312.length co95],.agg #[.int .i64 t277,.int .i64 t278,.slice Ao31 t279.length co31]] rfl (by (try simp only [List.map_toArray,List.map_cons,List.map_nil]);first|done|rfl|(simp only [List.length_drop,List.length_take];rfl)) ?_;(with_reducible refine (laws_eqHeard.calls kj19 t310 t311 _ _ t312 t277 t278 _ _ t279 true _ ?side1 ?side2 ?side3 ?side4 A71.out).mono ?_);(case side1=>refine (Kd.R_reads' (e:=52) (base:=w.heap.size) (ok:=fun k_=>((True∧some k_ ≠ (.slice Ao31 t279.length co31:Value).ownBlock)∧some k_ ≠ (.slice Ao45 t290.length co45:Value).ownBlock)) (n:=t312.length) (c:=co95) ?_).2.2;exact (by (with_reducible repeat (first|apply Kd.R_alloc|apply Kd.R_drewN|apply Kd.R_drew));exact (Kd.R_mono (Kd.R_far (p:=⟨gb315,2,none⟩) (Kd.R_far (p:=⟨gb315,1,none⟩) (Kd.R_far (p:=⟨gb315,0,none⟩) (Kd.R_types HO314.out BK315.out (by decide)) (fun _ hk=>hk.2) (.int .i64 t310)) (fun _ hk=>hk.2) (.int .i64 t311)) (fun _ hk=>hk.2) (.slice Ao95 t312.length co95)) (fun _ h_=>h_.1))));(case side2=>exact (Kd.R_reads' HO314.out).2.1);(case side3=>refine (Kd.R_reads' (e:=52) (base:=w.heap.size) (ok:=fun k_=>(some k_ ≠ (.slice Ao45 t290.length co45:Value).ownBlock∧some k_ ≠ (.slice Ao95 t312.length co95:Value).ownBlock)) (n:=t279.length) (c:=co31) ?_).2.2;exact (by (with_reducible repeat (first|apply Kd.R_alloc|apply Kd.R_drewN|apply Kd.R_drew));exact (Kd.R_mono (Kd.R_far (p:=⟨gb315,2,none⟩) (Kd.R_far (p:=⟨gb315,1,none⟩) (Kd.R_far (p:=⟨gb315,0,none⟩) (Kd.R_types HO_283002.out BK315.out (by decide)) (fun _ hk=>hk.2) (.int .i64 t310)) (fun _ hk=>hk.2) (.int .i64 t311)) (fun _ hk=>hk.2) (.slice Ao95 t312.length co95)) (fun _ h_=>h_.1))));(case side4=>exact (Kd.R_reads' HO_283002.out).2.1);rintro e w98 ⟨rfl,hb⟩;refine ⟨_,rfl,?_⟩;have n0_:=Aside0.mk (Kd.R_below (by (with_reducible repeat (first|apply Kd.R_alloc|apply Kd.R_drewN|apply Kd.R_drew));exact (Kd.R_mono (Kd.R_far (p:=⟨gb315,2,none⟩) (Kd.R_far (p:=⟨gb315,1,none⟩) (Kd.R_far (p:=⟨gb315,0,none⟩) (Kd.R_types HO_283002.out BK315.out (by decide)) (fun _ hk=>hk.2) (.int .i64 t310)) (fun _ hk=>hk.2) (.int .i64 t311)) (fun _ hk=>hk.2) (.slice Ao95 t312.length co95)) (fun _ h_=>h_.1))) hb);have n1_:=Aside0.mk (Kd.R_below (by (with_reducible repeat (first|apply Kd.R_alloc|apply Kd.R_drewN|apply Kd.R_drew));exact (Kd.R_mono (Kd.R_far (p:=⟨gb315,2,none⟩) (Kd.R_far (p:=⟨gb315,1,none⟩) (Kd.R_far (p:=⟨gb315,0,none⟩) (Kd.R_types HO_288001.out BK315.out (by decide)) (fun _ hk=>hk.2) (.int .i64 t310)) (fun _ hk=>hk.2) (.int .i64 t311)) (fun _ hk=>hk.2) (.slice Ao95 t312.length co95)) (fun _ h_=>h_.1))) hb);have n2_:=Aside0.mk (Kd.R_below (by (with_reducible repeat (first|apply Kd.R_alloc|apply Kd.R_drewN|apply Kd.R_drew));exact (Kd.R_mono (Kd.R_far (p:=⟨gb315,2,none⟩) (Kd.R_far (p:=⟨gb315,1,none⟩) (Kd.R_far (p:=⟨gb315,0,none⟩) (Kd.R_types HO_294002.out BK315.out (by decide)) (fun _ hk=>hk.2) (.int .i64 t310)) (fun _ hk=>hk.2) (.int .i64 t311)) (fun _ hk=>hk.2) (.slice Ao95 t312.length co95)) (fun _ h_=>h_.1))) hb);have n3_:=Aside0.mk (Kd.R_below (by (with_reducible repeat (first|apply Kd.R_alloc|apply Kd.R_drewN|apply Kd.R_drew));exact (Kd.R_mono (Kd.R_far (p:=⟨gb315,2,none⟩) (Kd.R_far (p:=⟨gb315,1,none⟩) (Kd.R_far (p:=⟨gb315,0,none⟩) (Kd.R_types HO309.out BK315.out (by decide)) (fun _ hk=>hk.2) (.int .i64 t310)) (fun _ hk=>hk.2) (.int .i64 t311)) (fun _ hk=>hk.2) (.slice Ao95 t312.length co95)) (fun _ h_=>h_.1))) hb);have n4_:=Aside0.mk (Kd.R_below (by (with_reducible repeat (first|apply Kd.R_alloc|apply Kd.R_drewN|apply Kd.R_drew));exact (Kd.R_mono (Kd.R_far (p:=⟨gb315,2,none⟩) (Kd.R_far (p:=⟨gb315,1,none⟩) (Kd.R_far (p:=⟨gb315,0,none⟩) (Kd.R_types HO314.out BK315.out (by decide)) (fun _ hk=>hk.2) (.int .i64 t310)) (fun _ hk=>hk.2) (.int .i64 t311)) (fun _ hk=>hk.2) (.slice Ao95 t312.length co95)) (fun _ h_=>h_.1))) hb);have n5_:=Aside0.mk (blk_below (g:=gb271) (o:=.cells #[.int .i64 a0_0,.slice A0_1 l0_1.length c0_1] 24 (0,0)) (by (with_reducible repeat (first|refine blk_drewN ?_ _|refine blk_drew ?_|refine blk_alloc ?_ _));refine blk_far ?_ NB271_315.out _;(with_reducible repeat (first|refine blk_drewN ?_ _|refine blk_drew ?_|refine blk_alloc ?_ _));refine blk_far ?_ NB271_315.out _;(with_reducible repeat (first|refine blk_drewN ?_ _|refine blk_drew ?_|refine blk_alloc ?_ _));refine blk_far ?_ NB271_315.out _;(with_reducible repeat (first|refine blk_drewN ?_ _|refine blk_drew ?_|refine blk_alloc ?_ _));exact BK271.out) hb);have n6_:=Aside0.mk (blk_below (g:=gb282) (o:=.cells #[.int .i64 t277,.int .i64 t278,.slice Ao31 t279.length co31] 39 (0,0)) (by (with_reducible repeat (first|refine blk_drewN ?_ _|refine blk_drew ?_|refine blk_alloc ?_ _));refine blk_far ?_ NB282_315.out _;(with_reducible repeat (first|refine blk_drewN ?_ _|refine blk_drew ?_|refine blk_alloc ?_ _));refine blk_far ?_ NB282_315.out _;(with_reducible repeat (first|refine blk_drewN ?_ _|refine blk_drew ?_|refine blk_alloc ?_ _));refine blk_far ?_ NB282_315.out _;(with_reducible repeat (first|refine blk_drewN ?_ _|refine blk_drew ?_|refine blk_alloc ?_ _));exact BK282.out) hb);have n7_:=Aside0.mk (blk_below (g:=gb287) (o:=.cells #[.int .i64 t283,.slice Ao38 t301.length co38] 31 (0,0)) (by (with_reducible repeat (first|refine blk_drewN ?_ _|refine blk_drew ?_|refine blk_alloc ?_ _));refine blk_far ?_ NB287_315.out _;(with_reducible repeat (first|refine blk_drewN ?_ _|refine blk_drew ?_|refine blk_alloc ?_ _));refine blk_far ?_ NB287_315.out _;(with_reducible repeat (first|refine blk_drewN ?_ _|refine blk_drew ?_|refine blk_alloc ?_ _));refine blk_far ?_ NB287_315.out _;(with_reducible repeat (first|refine blk_drewN ?_ _|refine blk_drew ?_|refine blk_alloc ?_ _));exact BK287.out) hb);have n8_:=Aside0.mk (blk_below (g:=gb293) (o:=.cells #[.int .i64 t288,.int .i64 t289,.slice Ao45 t290.length co45] 39 (0,0)) (by (with_reducible repeat (first|refine blk_drewN ?_ _|refine blk_drew ?_|refine blk_alloc ?_ _));refine blk_far ?_ NB293_315.out _;(with_reducible repeat (first|refine blk_drewN ?_ _|refine blk_drew ?_|refine blk_alloc ?_ _));refine blk_far ?_ NB293_315.out _;(with_reducible repeat (first|refine blk_drewN ?_ _|refine blk_drew ?_|refine blk_alloc ?_ _));refine blk_far ?_ NB293_315.out _;(with_reducible repeat (first|refine blk_drewN ?_ _|refine blk_drew ?_|refine blk_alloc ?_ _));exact BK293.out) hb);have n9_:=Aside0.mk (blk_below (g:=gb315) (o:=.cells #[.int .i64 t310,.int .i64 t311,.slice Ao95 t312.length co95] 39 (0,0)) (by (with_reducible repeat (first|refine blk_drewN ?_ _|refine blk_drew ?_|refine blk_alloc ?_ _));refine blk_put (cs:=#[.int .i64 t310,.int .i64 t311,.slice none 0 0]) ?_ 2 _ rfl;(with_reducible repeat (first|refine blk_drewN ?_ _|refine blk_drew ?_|refine blk_alloc ?_ _));refine blk_put (cs:=#[.int .i64 t310,.int .i64 0,.slice none 0 0]) ?_ 1 _ rfl;(with_reducible repeat (first|refine blk_drewN ?_ _|refine blk_drew ?_|refine blk_alloc ?_ _));refine blk_put (cs:=#[.int .i64 0,.int .i64 0,.slice none 0 0]) ?_ 0 _ rfl;(with_reducible repeat (first|refine blk_drewN ?_ _|refine blk_drew ?_|refine blk_alloc ?_ _));exact BK315.out) hb);have n10_:=Aside0.mk (below_step (by repeat (first|(with_reducible first|exact HB.out|apply below_alloc|apply pw_below_drewN|apply below_drew1|refine below_set ?_ GE271.out|refine below_set ?_ GE282.out|refine below_set ?_ GE287.out|refine below_set ?_ GE293.out|refine below_set ?_ GE315.out)|exact HB.out)) hb);clear HO_283002;clear HO_288001;clear HO_294002;clear HO309;clear HO314;clear BK271;clear BK282;clear BK287;clear BK293;clear BK315;clear HB;have HO_283002:=n0_;have HO_288001:=n1_;have HO_294002:=n2_;have HO309:=n3_;have HO314:=n4_;have BK271:=n5_;have BK282:=n6_;have BK287:=n7_;have BK293:=n8_;have BK315:=n9_;have HB:=n10_;clear n0_ n1_ n2_ n3_ n4_ n5_ n6_ n7_ n8_ n9_ n10_;(try clear hb);(try clear hb2);(try clear hk);(try clear hi);have hcz99_0:w98.cell? ⟨gb293,0,none⟩=some (.int .i64 t288):=(blk_cell BK293.out 0).trans rfl;have hcz99_1:w98.cell? ⟨gb293,1,none⟩=some (.int .i64 t289):=(blk_cell BK293.out 1).trans rfl;have hcz99_2:w98.cell? ⟨gb293,2,none⟩=some (.slice Ao45 t290.length co45):=(blk_cell BK293.out 2).trans rfl;have hfz99_0:=blk_frozen BK293.out 0;have hfz99_1:=blk_frozen BK293.out 1;have hfz99_2:=blk_frozen BK293.out 2)|((with_reducible refine gate_callee (f:=20) rfl ?_);refine goesL_ (some 71) rfl rfl Tryd.func20 (by kernel_rfl) rfl #[.agg #[.int .i64 t288,.int .i64 t289,.slice Ao45 t304.length co45],.int .i64 1] rfl (by (try simp only [List.map_toArray,List.map_cons,List.map_nil]);first|done|(rw [show t304.length=t290.length from (Kd.R_reads' HO_294002.out).1.symm] <;> rfl)|rfl|(simp only [List.length_drop,List.length_take];rfl)) ?_;(with_reducible refine (laws_heldHeard.calls kj19 t288 t289 _ _ t304 1 t317 _ ?side1 ?side2 A73.out).mono ?_);(case side1=>repeat (first|exact (Kd.R_reads' HO_294002.out).2.2|(with_reducible refine Kd.C_alloc ?_ _)|(with_reducible refine Kd.C_drewN ?_ _)|(with_reducible refine Kd.C_drew ?_)));(case side2=>rw [show t304.length=t290.length from (Kd.R_reads' HO_294002.out).1.symm];exact (Kd.R_reads' HO_294002.out).2.1);rintro e w100 ⟨rfl,hb⟩;refine ⟨_,rfl,?_⟩;have n0_:=Aside0.mk (Kd.R_below (by (with_reducible repeat (first|apply Kd.R_alloc|apply Kd.R_drewN|apply Kd.R_drew));exact HO_283002.out) hb);have n1_:=Aside0.mk (Kd.R_below (by (with_reducible repeat (first|apply Kd.R_alloc|apply Kd.R_drewN|apply Kd.R_drew));exact HO_288001.out) hb);have n2_:=Aside0.mk (Kd.R_below (by (with_reducible repeat (first|apply Kd.R_alloc|apply Kd.R_drewN|apply Kd.R_drew));exact HO_294002.out) hb);have n3_:=Aside0.mk (Kd.R_below (by (with_reducible repeat (first|apply Kd.R_alloc|apply Kd.R_drewN|apply Kd.R_drew));exact HO309.out) hb);have n4_:=Aside0.mk (Kd.R_below (by (with_reducible repeat (first|apply Kd.R_alloc|apply Kd.R_drewN|apply Kd.R_drew));exact HO314.out) hb);have n5_:=Aside0.mk (blk_below (g:=gb271) (o:=.cells #[.int .i64 a0_0,.slice A0_1 l0_1.length c0_1] 24 (0,0)) (by (with_reducible repeat (first|refine blk_drewN ?_ _|refine blk_drew ?_|refine blk_alloc ?_ _));exact BK271.out) hb);have n6_:=Aside0.mk (blk_below (g:=gb282) (o:=.cells #[.int .i64 t277,.int .i64 t278,.slice Ao31 t279.length co31] 39 (0,0)) (by (with_reducible repeat (first|refine blk_drewN ?_ _|refine blk_drew ?_|refine blk_alloc ?_ _));exact BK282.out) hb);have n7_:=Aside0.mk (blk_below (g:=gb287) (o:=.cells #[.int .i64 t283,.slice Ao38 t301.length co38] 31 (0,0)) (by (with_reducible repeat (first|refine blk_drewN ?_ _|refine blk_drew ?_|refine blk_alloc ?_ _));exact BK287.out) hb);have n8_:=Aside0.mk (blk_below (g:=gb293) (o:=.cells #[.int .i64 t288,.int .i64 t289,.slice Ao45 t290.length co45] 39 (0,0)) (by (with_reducible repeat (first|refine blk_drewN ?_ _|refine blk_drew ?_|refine blk_alloc ?_ _));exact BK293.out) hb);have n9_:=Aside0.mk (blk_below (g:=gb315) (o:=.cells #[.int .i64 t310,.int .i64 t311,.slice Ao95 t312.length co95] 39 (0,0)) (by (with_reducible repeat (first|refine blk_drewN ?_ _|refine blk_drew ?_|refine blk_alloc ?_ _));exact BK315.out) hb);have n10_:=Aside0.mk (below_step (by repeat (first|(with_reducible first|exact HB.out|apply below_alloc|apply pw_below_drewN|apply below_drew1|refine below_set ?_ GE271.out|refine below_set ?_ GE282.out|refine below_set ?_ GE287.out|refine below_set ?_ GE293.out|refine below_set ?_ GE315.out)|exact HB.out)) hb);clear HO_283002;clear HO_288001;clear HO_294002;clear HO309;clear HO314;clear BK271;clear BK282;clear BK287;clear BK293;clear BK315;clear HB;have HO_283002:=n0_;have HO_288001:=n1_;have HO_294002:=n2_;have HO309:=n3_;have HO314:=n4_;have BK271:=n5_;have BK282:=n6_;have BK287:=n7_;have BK293:=n8_;have BK315:=n9_;have HB:=n10_;clear n0_ n1_ n2_ n3_ n4_ n5_ n6_ n7_ n8_ n9_ n10_;(try clear hb);(try clear hb2);(try clear hk);(try clear hi)))
        go_ret
        exact ⟨by first|rfl|(simp [errW_none,errW_some] <;> rfl)|(simp [*,errW_none,errW_some] <;> rfl),by repeat (first|(with_reducible first|exact HB.out|apply below_alloc|apply pw_below_drewN|apply below_drew1|refine below_set ?_ GE271.out|refine below_set ?_ GE282.out|refine below_set ?_ GE287.out|refine below_set ?_ GE293.out|refine below_set ?_ GE315.out)|exact HB.out)⟩
       rw [if_neg c75] at H
       have c75b0:(t317==t303)=false:=beq_eq_false_iff_ne.mpr c75
       have c75b1:(t317 != t303)=true:=bne_iff_ne.mpr c75
       rw [HR_.out] at H
       cases H
      replace c72:=Bool.eq_false_iff.mpr c72
      subst c72
      have H1:(some false)=some r:=by rw [if_neg (show ¬ (false=true) by decide)] at H;exact H
      clear H
      have H:=H1
      clear H1
      rw [HR_.out] at H
      cases H
     rw [if_neg c68] at H
     have c68b0:(t305==t303)=false:=beq_eq_false_iff_ne.mpr c68
     have c68b1:(t305 != t303)=true:=bne_iff_ne.mpr c68
     rw [HR_.out] at H
     cases H
  replace c18:=Bool.eq_false_iff.mpr c18
  subst c18
  have H1:(some false)=some r:=by rw [if_neg (show ¬ (false=true) by decide)] at H;exact H
  clear H
  have H:=H1
  clear H1
  rw [HR_.out] at H
  cases H
 replace c15:=Bool.eq_false_iff.mpr c15
 subst c15
 have H1:(some false)=some r:=by rw [if_neg (show ¬ (false=true) by decide)] at H;exact H
 clear H
 have H:=H1
 clear H1
 rw [HR_.out] at H
 cases H
end Go.Proofs.YtpdnabhpkdchjaaDoor.P
namespace Go.Proofs.YtpdnabhpkdchjaaDoor.P
open Go Go.RowKit Go.Proofs.YtpdnabhpkdchjaaDoorW.PrintWords Go.Proofs.YtpdnabhpkdchjaaDoorW.PrintLast Go.Proofs.YtpdnabhpkdchjaaDoorW.PrintMore
set_option linter.unusedVariables false
set_option linter.unusedSimpArgs false
theorem specRead_ev2 (n : Int) (l : List S98) (tx : ByteArray) : Ev (fun k => spec_ReadEvents.f k n l tx) (readE n l tx.data.toList) := by
  have := specRead_ev n l tx.data.toList
  rwa [← bs_data tx] at this
theorem read_law_ev (n : Int) (l : List S100) (tx : ByteArray) (hl : l.length ≤ 9223372036854775807) : Ev (fun k => laws_FnExactReadEvents.f k n l tx) true := by
  unfold laws_FnExactReadEvents.f
  by_cases h0 : (tx.size : Int) > 1048576
  · exact Ev.ite_pos h0 (Ev.now _)
  refine Ev.ite_neg h0 ?_
  refine Ev.call (szLayout_eq n l 1048576 (by omega) (by omega) hl) ?_
  by_cases h : (1048576 : Int) < l.length
  · exact Ev.ite_pos (by rw [if_pos h]; omega) (Ev.now _)
  · refine Ev.ite_neg (by rw [if_neg h]; omega) ?_
    have hl2 : l.length ≤ 1048576 := by omega
    have hm : (l.map cvC).length = l.length := by simp
    obtain ⟨s, hs⟩ : ∃ s, tx.data.toList = s := ⟨_, rfl⟩
    have hf := readE_form n (l.map cvC) s
    have hi : impl_ReadEvents.f n (l.map cvC) tx = some (readE n (l.map cvC) s) := by unfold impl_ReadEvents.f; rw [hs]
    refine Ev.bind (toLayout_ev n l hl2) ?_
    refine Ev.bind (specRead_ev2 n _ tx) ?_
    rw [hs]
    refine Ev.bind (toLayout_ev n l hl2) ?_
    refine Ev.call hi ?_
    obtain ⟨⟨c, d, es⟩, hr⟩ : ∃ r, readE n (l.map cvC) s = r := ⟨_, rfl⟩
    rw [hr] at hf hi ⊢
    dsimp only at hf ⊢
    refine Ev.bind (eqHeard_ev c d es (by omega)) (Ev.ite_pos rfl ?_)
    refine Ev.bind (toLayout_ev n l hl2) ?_
    refine Ev.bind (eqLayout_ev n (l.map cvC) (by omega)) (Ev.ite_pos rfl ?_)
    refine Ev.bind (markLayout_ev n (l.map cvC) 1 (by omega) (by omega)) ?_
    refine Ev.ite_neg (by dsimp only; omega) ?_
    refine Ev.bind (eqHeard_ev c d es (by omega)) ?_
    refine Ev.step (fun k => by rw [laws_FnExactReadEvents.j0, if_neg (by simp)]) ?_
    refine Ev.bind (markHeard_ev c d es 1 (by omega) (by omega)) ?_
    have hh := heldHeard_ev c d es.length 1 (by omega) (by omega)
    refine Ev.bind hh (Ev.ite_neg (by omega) (Ev.ite_pos rfl ?_))
    refine Ev.bind (toLayout_ev n l hl2) ?_
    refine Ev.call hi ?_
    refine Ev.bind (eqHeard_ev c d es (by omega)) (Ev.ite_pos rfl ?_)
    exact Ev.bind hh (Ev.ite_neg (by omega) (Ev.ite_pos rfl (Ev.now _)))
theorem read_walk {T : Addr} {tc : Nat} (n : Int) (A : Option Addr) (c : Nat) (l : List S100) (tx : ByteArray) (w : World) (hT : Tabs T tc w) (hr : Kd.C k100 w A l.length l) (hc : l.length ≤ c) :
    Calls Tryd.prog 4 #[.agg #[.int .i64 n, .slice A l.length c], .string tx] w fun e w' => e = .returned (.bool true) ∧ Below w.heap.size w w' := by
  obtain ⟨k, h⟩ := (read_law_ev n l tx hr.2.1).rounds
  exact laws_FnExactReadEvents.calls k n A c l tx true w ⟨hT⟩ hr hc ⟨rfl⟩ h
end Go.Proofs.YtpdnabhpkdchjaaDoor.P
namespace Go.Proofs.YtpdnabhpkdchjaaDoor.P
open Go Go.RowKit Go.ChangeShapes Go.WideShapes Go.ChangeAt Go.WideElems
set_option linter.unusedVariables false
def laidL : List (String × DataW Unit) := [("math/bits.deBruijn32tab", Rows.laid_math_bits_deBruijn32tab), ("math/bits.deBruijn64tab", Rows.laid_math_bits_deBruijn64tab), ("internal/strconv.uint64pow10", Rows.laid_internal_strconv_uint64pow10), ("loop.example/treadle/impl.names", Rows.laid_loop_example_treadle_impl_names)]
theorem gNames : Tryd.prog.globalNamed "loop.example/treadle/impl.names" = some 0 := by kernel_rfl
theorem gPow : Tryd.prog.globalNamed "internal/strconv.uint64pow10" = some 2 := by kernel_rfl
theorem tNames : (Tryd.prog.globals[0]?).map (·.type) = some 77 := by kernel_rfl
theorem tPow : (Tryd.prog.globals[2]?).map (·.type) = some 132 := by kernel_rfl
theorem pow_data {H : Type} : (Rows.laid_internal_strconv_uint64pow10 : DataW H) = Lib.tabData .u64 Lib.pow10Tab := by kernel_rfl
theorem tabs_of_laid {W : World} (h : laidMetH Tryd.prog laidL W) : ∃ T tc, Tabs T tc W := by
  rw [MakeChecks.laidMetH_plain _ _ _ (by kernel_rfl)] at h
  have h2 := laidMet.tail (laidMet.tail h)
  have hT : Lib.TabIs Tryd.prog W "internal/strconv.uint64pow10" .u64 Lib.pow10Tab := by
    rw [pow_data] at h2
    exact Lib.tabIs_of_head gPow tPow Tryd.underlying132 Tryd.underlying90 (by kernel_rfl) (by kernel_rfl) h2
  obtain ⟨ps, ⟨g, t, cs, fuel, p, q, hg, ht, hv, hd, _, _⟩, _, hrows⟩ := laidMet.tail h2
  obtain rfl := Option.some.inj (gNames.symm.trans hg)
  obtain rfl := Option.some.inj (tNames.symm.trans ht)
  obtain ⟨a, cap, hcs, hcap, hel⟩ := open_row Tryd.underlying77 (by kernel_rfl) hd
  have hn := World.var?_cell gNames hv 0
  rw [Array.eq_one_of_toList hcs] at hn
  refine ⟨a, cap, by simpa using hn, fun i hi => ?_, hT⟩
  have key : ∀ l : List UInt8, ([DataW.lit (H := Unit) (.string []), .lit (.string [112, 97, 115, 115]), .lit (.string [103, 104, 111, 115, 116]), .lit (.string [100, 101, 97, 100]), .lit (.string [97, 108, 105, 118, 101]), .lit (.string [114, 101, 115, 101, 116])])[i]? = some (.lit (.string l)) → W.cell? (a.add i) = some (.string ⟨l.toArray⟩) := by
    intro l hl
    obtain ⟨v, n, q, hc, hr⟩ := hel i _ hl
    obtain ⟨s, hs, hx, _⟩ := DataW.trod_string Tryd.underlying9 hr
    obtain rfl : v = .string s := by simpa using hs
    rw [hc]
    have e : l = s.data.toList := by simpa using congrArg Prod.fst hx
    rw [e]
  apply key
  match i, hi with
  | 0, _ => rfl
  | 1, _ => rfl
  | 2, _ => rfl
  | 3, _ => rfl
  | 4, _ => rfl
  | 5, _ => rfl
theorem names_back {H : Type} {enc : TypeId × Value → H} {W W' : World} (hb : Below W.heap.size W W') {gs : List (DataW H)} {ps : List MemPlace} (h : DataW.TrodVars enc Tryd.prog W (fun _ => true) ["loop.example/treadle/impl.names"] gs ps) :
    ∃ pv, DataW.TrodVars enc Tryd.prog W' (fun b => decide (b < W.heap.size)) ["loop.example/treadle/impl.names"] gs pv := by
  have hlt := h.lt
  obtain ⟨g, t, cs, fuel, d, p, rfl, h1, h2, h3, h4, e⟩ := trodVars_one h
  obtain rfl := Option.some.inj (gNames.symm.trans h1)
  obtain rfl := Option.some.inj (tNames.symm.trans h2)
  have hp : ∀ x ∈ p, x.block < W.heap.size := fun x hx => hlt x (by rw [e]; exact List.mem_append_right _ hx)
  have h3' : W'.var? Tryd.prog "loop.example/treadle/impl.names" = some cs := by
    unfold World.var? at h3 ⊢
    rw [h1] at h3 ⊢
    simp only [Option.bind_some] at h3 ⊢
    have hg : 0 < W.heap.size := by
      cases hh : W.heap[0]? with
      | none => rw [hh] at h3; cases h3
      | some o => exact (Array.getElem?_eq_some_iff.1 hh).1
    rw [hb.block 0 hg]
    exact h3
  exact ⟨_, trodVars_mk1 h1 h2 h3' (DataW.trod_stays (kids_book Facts.laidOut (by kernel_rfl)) (book_sized (by kernel_rfl)) (fun h => by cases h) ⟨of_decide_eq_true (by kernel_rfl), book_self _⟩ h4 (fun x hx => hb.same (hp x hx)) (fun x hx => by simpa using hp x hx))⟩
theorem door_met (os : Os) (args : Array Value) : laidMetH Tryd.prog laidL ((World.doorLaid Tryd.prog 4000 os).forCall (fun _ _ => 0) ⟨#[], args, []⟩).memory :=
  laidMetH_of_parts3 (fuel := 8) (laidMet_of_run' 8 (by kernel_rfl) (by kernel_rfl)) (by kernel_rfl) (by kernel_rfl)
end Go.Proofs.YtpdnabhpkdchjaaDoor.P
namespace Go.Proofs.YtpdnabhpkdchjaaDoor.fnExactReadEvents
open Go.ChangeShapes Go.WideShapes Go.ChangeAt Go.RowKit Go.Proofs.YtpdnabhpkdchjaaDoor.Open Go.Proofs.YtpdnabhpkdchjaaDoor.P
set_option linter.unusedVariables false
set_option maxRecDepth 100000 in
theorem lifted (os : Os) (started : os.Started) (H : Type) (enc : TypeId × Value → H) :
    ReturnsInHanded {} Tryd.checked os 4 .any (fun w args => (Rows.fnExactReadEventsSpec.pre enc Tryd.prog Tryd.f4 [] false w args ∧ laidMetH Tryd.prog laidL w) ∧ sizedMet enc Tryd.prog Tryd.f4 (OpenSpec.ofChange Rows.fnExactReadEventsSpec) false w args) (Rows.fnExactReadEventsSpec.post enc Tryd.prog Tryd.f4 false true false false) := by
  refine returnsInHanded_of_change_and (C := Tryd.checked) (X := fun w _ => laidMetH Tryd.prog laidL w) (fun _ _ _ hh h => h.of_heap hh) Facts.own started (by kernel_rfl) Tryd.func4
    (ChangeSpec.witness_shaped (enc := enc) (C := Tryd.checked) (os := os) (X := fun w _ => laidMetH Tryd.prog laidL w) false (World.doorLaid Tryd.prog 4000 os) #[.agg #[.int .i64 0, .slice none 0 0], .string ByteArray.empty] 8 rfl (World.shaped_of_RefB (by kernel_rfl) (by kernel_rfl)) (by kernel_rfl) (by kernel_rfl) (by kernel_rfl) (door_met os _)) ?_
  intro W base args ds gs before hval0 hW hcnd hsz0 hL _
  have hval : ∀ (j : Nat) t v, Tryd.f4.params[j]? = some t → args[j]? = some v → Value.okWide Tryd.prog W .any base t v := hval0
  have hW' := hW
  obtain ⟨p, q, hA0, hV, rfl, hfz, hnd⟩ := hW
  obtain ⟨g, gt, gcs, gf, dg, gp, rfl, hg1, hg2, hg3, hg4, hg5⟩ := trodVars_one hV
  have hA : DataW.TrodAll enc Tryd.prog W 0 (fun _ => true) true Tryd.f4.params.toList args.toList ds p := hA0
  rw [Tryd.params4] at hA hval
  obtain ⟨v0, vs0, d0, ds0, p0, q0, hargs, rfl, rfl, h0, r0⟩ := trodAll_cons hA
  obtain ⟨v1, vs1, d1, ds1, p1, q1, rfl, rfl, rfl, h1, r1⟩ := trodAll_cons r0
  obtain ⟨rfl, rfl, rfl⟩ := trodAll_nil r1
  obtain rfl : args = #[v0, v1] := by cases args; simp_all
  obtain ⟨T, tc, hT⟩ := tabs_of_laid hL
  have k0 := h0
  have lt0 : ∀ x ∈ p0, x.block < W.heap.size := by obtain ⟨m, hm⟩ := k0; exact DataW.trod_lt m _ _ _ hm
  obtain ⟨n0, A0, c0, l0, rfl, hr0, hc0⟩ := arg_layout (hval 0 24 v0 rfl rfl) h0
  have k1 := h1
  have lt1 : ∀ x ∈ p1, x.block < W.heap.size := by obtain ⟨m, hm⟩ := k1; exact DataW.trod_lt m _ _ _ hm
  obtain ⟨s1, rfl⟩ := okWide_string Tryd.underlying9 (hval 1 9 v1 rfl rfl)
  clear hA0 hval0 hsz0
  refine (P.read_walk n0 A0 c0 l0 s1 W hT hr0 hc0).mono fun e W' ⟨he, bel⟩ => ?_
  subst he
  obtain ⟨pv, hpv⟩ := names_back bel hV
  exact ⟨_, rfl, _, _, _, [], _, _, hW', trodAll_mk1 (shut_bool Tryd.underlying4 _), (trodAll_cons_mk (Below.trod Facts.laidOut (by kernel_rfl) (of_decide_eq_true (by kernel_rfl)) k0 bel lt0) (trodAll_cons_mk (Below.trod Facts.laidOut (by kernel_rfl) (of_decide_eq_true (by kernel_rfl)) k1 bel lt1) trodAll_mk0)), hpv, bel.frame _, fun h => by cases h⟩
theorem k10 : (Rows.fnExactReadEventsRow.inPlace == Tryd.prog.inPlace 4) = true := by kernel_rfl
theorem k11 : (Rows.fnExactReadEventsRow.unfollowed == Tryd.prog.unfollowed 4) = true := by kernel_rfl
theorem k12 : (Rows.fnExactReadEventsRow.recurses == Tryd.prog.recurses 4) = true := by kernel_rfl
theorem k13 : (Rows.fnExactReadEventsRow.named == Tryd.prog.varsNamed 4) = true := by kernel_rfl
theorem over : Rows.fnExactReadEventsRow.holds Tryd.pinned (OpenSpec.ofChange Rows.fnExactReadEventsSpec) :=
  OpenClaim.holds_of_wide 4 Tryd.f4 rfl rfl rfl rfl rfl rfl rfl ⟨rfl, rfl, rfl, rfl, rfl⟩ rfl rfl rfl rfl rfl (by kernel_rfl) Tryd.func4
    (joined_of 4 Tryd.f4 Rows.fnExactReadEventsSpec Rows.fnExactReadEventsRow (by kernel_rfl) (by kernel_rfl) (by kernel_rfl) rfl rfl Facts.stopKnobs k10 k11 k12 k13 (by kernel_rfl) (by kernel_rfl) (by kernel_rfl) (by kernel_rfl) (by kernel_rfl) (by kernel_rfl) (by kernel_rfl) (by kernel_rfl) (by kernel_rfl) rfl rfl rfl rfl rfl rfl (by kernel_rfl) (by kernel_rfl) (by kernel_rfl))
    (of_decide_eq_true (by kernel_rfl)) (by unfold Func.isWrapper; rw [if_neg (by decide +kernel)]; exact ⟨rfl, rfl⟩)
    (fun os started H enc _ => lifted os started H enc)
theorem proved : Rows.FnExactReadEventsSaid := over
end Go.Proofs.YtpdnabhpkdchjaaDoor.fnExactReadEvents
namespace Go.Proofs.YtpdnabhpkdchjaaDoor
theorem fnExactReadEventsCard_holds : Rows.FnExactReadEventsCardSaid :=
  Claim7.holds_tied_plain_at .later [] [.data, .data, .data, .data] true (true, "3535572eedccaf819ec62b2d03865cafaa398ae32f8b1aa05a99bb5a0e86f2eb") false
    fnExactReadEvents.proved (fun _ h => by cases h) (by kernel_rfl) (fun _ h => by cases h) fnExactReadEvents_row_tie rfl ⟨rfl, rfl⟩ (by kernel_rfl) rfl
    (fun f fn hf hfn => by
      obtain rfl : f = 4 := Option.some.inj ((show Tryd.prog.funcNamed "loop.example/treadle/laws.FnExactReadEvents" = some 4 by kernel_rfl).symm.trans hf) |>.symm
      obtain rfl : fn = Tryd.f4 := (Option.some.inj (Tryd.func4.symm.trans hfn)).symm
      exact ⟨by kernel_rfl, fun j t ht => by
        rw [Tryd.params4] at ht
        rcases j with _ | _ | j
        · obtain rfl : 24 = t := by simpa using ht
          kernel_rfl
        · obtain rfl : 9 = t := by simpa using ht
          kernel_rfl
        · simp at ht⟩)
    (by kernel_rfl)
#print axioms fnExactReadEventsCard_holds
end Go.Proofs.YtpdnabhpkdchjaaDoor
