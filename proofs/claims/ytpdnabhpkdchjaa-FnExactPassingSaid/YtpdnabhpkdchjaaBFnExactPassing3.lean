/- The statement FnExactPassing holds of the given program, for every argument; there are no conditions. (Part 3 of 4.) -/
import Derived.Test.YtpdnabhpkdchjaaBFnExactPassing2
import Derived.Deep.DrawnRows
import Derived.Shelf.SlSortCmp.NoneTotal
namespace Go.Proofs.Ytpdnabhpkdchjaa.P
open Go.RowKit Go.Proofs.YtpdnabhpkdchjaaW.PrintWords Go.Proofs.YtpdnabhpkdchjaaW.PrintLast Go.Proofs.YtpdnabhpkdchjaaW.PrintMore
attribute [local go_sem] max2_int min2_int max_two min_two max_three min_three max_four min_four
set_option linter.unusedVariables false
set_option linter.unusedSimpArgs false
def laws_eqEventS.l0:Nat→List (S56)→List (S56)→Int→Option (Bool)
 | 0,_,_,_=>none
 | k+1,x0,x1,x5=>if x5<(x0.length:Int) then (if 0≤x5 then (if x5<(x1.length:Int) then ((laws_eqEvent.f ((rd_T56 x0 x5).f0) ((rd_T56 x0 x5).f1) ((rd_T56 x0 x5).f2) ((rd_T56 x1 x5).f0) ((rd_T56 x1 x5).f1) ((rd_T56 x1 x5).f2)).bind fun t681=>(if t681=true then (laws_eqEventS.l0 k x0 x1 (wrap64 (x5+1))) else (some false))) else (none)) else (none)) else (some true)
def laws_eqEventS.f (k:Nat) (l0:List (S56)) (l1:List (S56)):Option (Bool):=if (l0.length:Int)=(l1.length:Int) then (laws_eqEventS.l0 k l0 l1 0) else (some false)
def laws_eqEventS.T6:Bool × List (List Nat × List Nat):=(true,[([],[]),([],[]),([0,1],[0,1]),([2],[2]),([],[]),([],[]),([4,5],[4,5]),([6],[6]),([3,7],[3,7]),([8],[8])])
def laws_eqEventS.B6:List Nat:=[0,0,3,7,0,0,48,112,255,511]
theorem laws_eqEventS.tab6:rtab .any (opsOf Try.f52 6)=laws_eqEventS.T6:=by kernel_rfl
theorem laws_eqEventS.bits6:waitsOk laws_eqEventS.T6.2 laws_eqEventS.B6=true:=by kernel_rfl
set_option maxHeartbeats 8000000 in
set_option maxRecDepth 100000 in
theorem laws_eqEventS.calls (k:Nat) (A0:Option Addr) (c0:Nat) (l0:List (S56)) (A1:Option Addr) (c1:Nat) (l1:List (S56)) (r:Bool) (w:World) (hr0:Kd.C k56 w A0 l0.length l0) (hc0:l0.length≤c0) (hr1:Kd.C k56 w A1 l1.length l1) (hc1:l1.length≤c1) (h:laws_eqEventS.f k l0 l1=some r) :
  Calls Try.prog 52 #[.slice A0 l0.length c0,.slice A1 l1.length c1] w fun e w'=>e=.returned (.bool r)∧Below w.heap.size w w':=by
 have hu56:=Try.underlying56
 have HR0:=Aside0.mk hr0
 have HC0:=Aside0.mk hc0
 clear hr0 hc0
 have HR1:=Aside0.mk hr1
 have HC1:=Aside0.mk hc1
 clear hr1 hc1
 have HB:=Aside0.mk (Below.refl w.heap.size w)
 have H:(if (l0.length:Int)=(l1.length:Int) then (laws_eqEventS.l0 k l0 l1 0) else (some false))=some r:=h
 clear h
 by_cases c3:(l0.length:Int)=(l1.length:Int)
 ·rw [if_pos c3] at H
  have c3b0:((l0.length:Int)==(l1.length:Int))=true:=beq_iff_eq.mpr c3
  have c3b1:((l0.length:Int) != (l1.length:Int))=false:=bne_eq_false_iff_eq.mpr c3
  have c3b2:(l0.length==l1.length)=true:=by first|simpa using c3|(simp at c3 ⊢;omega)
  clear c3
  have H':=Aside0.mk H
  clear H
  go_enter Try.func52,Try.ntmps52
  go_wp2
  go_loopg [5] k (fun kq v5 w'=>∃ (x5_1:Int),v5=.int .i64 x5_1∧Aside0 (laws_eqEventS.l0 kq l0 l1 x5_1=some r)∧Aside0 (kq≤k)∧Aside0 (Below w.heap.size w w'))
  case atStart=>exact ⟨(0),(by first|rfl|(simp;done)|(simp [*];done)),H',⟨Nat.le_refl _⟩,⟨by exact HB.out⟩⟩
  case round =>
   clear H'
   try clear c1
   try clear p2
   try clear c3
   try clear c3b0
   try clear c3b1
   try clear c3b2
   obtain ⟨x5_1,rfl,HA,HK1,HB⟩:=hrel
   cases gk with
   | zero=>exact absurd HA.out (by simp [laws_eqEventS.l0])
   | succ k1 =>
    have H:=HA.out
    clear HA
    simp only [laws_eqEventS.l0] at H
    by_cases c4:x5_1<(l0.length:Int)
    ·rw [if_pos c4] at H
     have c4b0:decide (x5_1<(l0.length:Int))=true:=decide_eq_true c4
     clear c4
     by_cases c5:0≤x5_1
     ·rw [if_pos c5] at H
      have c5b0:decide (0≤x5_1)=true:=decide_eq_true c5
      clear c5
      by_cases c6:x5_1<(l1.length:Int)
      ·rw [if_pos c6] at H
       have c6b0:decide (x5_1<(l1.length:Int))=true:=decide_eq_true c6
       clear c6
       replace H:=Option.bind_eq_some_iff.mp H
       obtain ⟨t681,A70,H⟩:=H
       replace H:(if t681=true then (laws_eqEventS.l0 k1 l0 l1 (wrap64 (x5_1+1))) else (some false))=some r:=H
       have A7:=Aside0.mk A70
       clear A70
       by_cases c8:t681=true
       ·subst c8
        have H1:(laws_eqEventS.l0 k1 l0 l1 (wrap64 (x5_1+1)))=some r:=by rw [if_pos rfl] at H;exact H
        clear H
        have H:=H1
        clear H1
        have H':=Aside0.mk H
        clear H
        try go_wp2
        have n0_:=Aside0.mk (below_drew1 HB.out)
        clear HB
        have HB:=n0_
        clear n0_
        have p679:0≤(x5_1:Int):=of_decide_eq_true (by first|(with_reducible assumption)|assumption)
        have q679:x5_1<(l0.length:Int):=of_decide_eq_true (by first|(with_reducible assumption)|assumption)
        obtain ⟨ad679,e679,hx679_0,hx679_1,hx679_2⟩:=at_T56 HR0.out x5_1 p679 q679
        have hw679_2:=hx679_2
        have hw679_1:=hx679_1
        have hw679_0:=hx679_0
        cases e679
        replace hx679_0:=(HB.out.cell (World.block_lt_of_cell? w _ hx679_0)).trans hx679_0
        replace hx679_1:=(HB.out.cell (World.block_lt_of_cell? w _ hx679_1)).trans hx679_1
        replace hx679_2:=(HB.out.cell (World.block_lt_of_cell? w _ hx679_2)).trans hx679_2
        replace p679:=eq_true p679
        replace q679:=eq_true q679
        have p680:0≤(x5_1:Int):=of_decide_eq_true (by first|(with_reducible assumption)|assumption)
        have q680:x5_1<(l1.length:Int):=of_decide_eq_true (by first|(with_reducible assumption)|assumption)
        obtain ⟨ad680,e680,hx680_0,hx680_1,hx680_2⟩:=at_T56 HR1.out x5_1 p680 q680
        have hw680_2:=hx680_2
        have hw680_1:=hx680_1
        have hw680_0:=hx680_0
        cases e680
        replace hx680_0:=(HB.out.cell (World.block_lt_of_cell? w _ hx680_0)).trans hx680_0
        replace hx680_1:=(HB.out.cell (World.block_lt_of_cell? w _ hx680_1)).trans hx680_1
        replace hx680_2:=(HB.out.cell (World.block_lt_of_cell? w _ hx680_2)).trans hx680_2
        replace p680:=eq_true p680
        replace q680:=eq_true q680
        refine start_ (n:=10) (S:=fun w'=>w'.cell? (ad679.add ((x5_1).toNat * 3))=some (.int .i64 ((rd_T56 l0 x5_1).f0))∧w'.cell? ⟨(ad679.add ((x5_1).toNat * 3)).block,(ad679.add ((x5_1).toNat * 3)).off+1,none⟩=some (.int .i64 ((rd_T56 l0 x5_1).f1))∧w'.cell? ⟨(ad679.add ((x5_1).toNat * 3)).block,(ad679.add ((x5_1).toNat * 3)).off+2,none⟩=some (.int .i64 ((rd_T56 l0 x5_1).f2))∧w'.cell? (ad680.add ((x5_1).toNat * 3))=some (.int .i64 ((rd_T56 l1 x5_1).f0))∧w'.cell? ⟨(ad680.add ((x5_1).toNat * 3)).block,(ad680.add ((x5_1).toNat * 3)).off+1,none⟩=some (.int .i64 ((rd_T56 l1 x5_1).f1))∧w'.cell? ⟨(ad680.add ((x5_1).toNat * 3)).block,(ad680.add ((x5_1).toNat * 3)).off+2,none⟩=some (.int .i64 ((rd_T56 l1 x5_1).f2))) (ds:=[]) #[false,false,false,false,false,false,false,false,false,false] (by kernel_rfl) rfl rfl ⟨((HB.out.cell (World.block_lt_of_cell? w _ hw679_0)).trans hw679_0),((HB.out.cell (World.block_lt_of_cell? w _ hw679_1)).trans hw679_1),((HB.out.cell (World.block_lt_of_cell? w _ hw679_2)).trans hw679_2),((HB.out.cell (World.block_lt_of_cell? w _ hw680_0)).trans hw680_0),((HB.out.cell (World.block_lt_of_cell? w _ hw680_1)).trans hw680_1),((HB.out.cell (World.block_lt_of_cell? w _ hw680_2)).trans hw680_2)⟩ (fun hHeld=>?_);refine with_tabW laws_eqEventS.tab6 laws_eqEventS.bits6 (fun HT_ HW_=>?_)
        generalize wr.drew=w9 at HB hx679_0 hx679_1 hx679_2 hx680_0 hx680_1 hx680_2 hHeld ⊢
        refine pure_ (i:=0) (N:=some 17) (v:=?_) (a':=?_) #[true,false,false,false,false,false,false,false,false,false] rfl rfl (any_of HT_.out (by kernel_rfl)) (fun _ _ _ h=>h) (Or.inl ⟨by rfl,?_⟩) ?_ ?_
        rotate_left
        ·intro w'
         go_simp
         with_reducible rfl
        rotate_left
        ·simp only [Act.put,List.setIfInBounds_toArray,List.set_cons_zero,List.set_cons_succ,i64_w,i32_w]
         rfl
        refine pure_ (i:=1) (N:=some 18) (v:=?_) (a':=?_) #[true,true,false,false,false,false,false,false,false,false] rfl rfl (any_of HT_.out (by kernel_rfl)) (fun _ _ _ h=>h) (Or.inl ⟨by rfl,?_⟩) ?_ ?_
        rotate_left
        ·intro w'
         go_simp
         with_reducible rfl
        rotate_left
        ·simp only [Act.put,List.setIfInBounds_toArray,List.set_cons_zero,List.set_cons_succ,i64_w,i32_w]
         rfl
        refine pure_ (i:=2) (N:=some 19) (v:=?_) (a':=?_) #[true,true,true,false,false,false,false,false,false,false] rfl rfl (any_of HT_.out (by kernel_rfl)) (fun _ _ _ h=>h) (Or.inl ⟨by rfl,?_⟩) ?_ ?_
        rotate_left
        ·intro w'
         go_simp
         with_reducible rfl
        rotate_left
        ·simp only [Act.put,List.setIfInBounds_toArray,List.set_cons_zero,List.set_cons_succ,i64_w,i32_w]
         rfl
        refine pure_ (i:=4) (N:=some 21) (v:=?_) (a':=?_) #[true,true,true,false,true,false,false,false,false,false] rfl rfl (any_of HT_.out (by kernel_rfl)) (fun _ _ _ h=>h) (Or.inl ⟨by rfl,?_⟩) ?_ ?_
        rotate_left
        ·intro w'
         go_simp
         with_reducible rfl
        rotate_left
        ·simp only [Act.put,List.setIfInBounds_toArray,List.set_cons_zero,List.set_cons_succ,i64_w,i32_w]
         rfl
        refine pure_ (i:=5) (N:=some 22) (v:=?_) (a':=?_) #[true,true,true,false,true,true,false,false,false,false] rfl rfl (any_of HT_.out (by kernel_rfl)) (fun _ _ _ h=>h) (Or.inl ⟨by rfl,?_⟩) ?_ ?_
        rotate_left
        ·intro w'
         go_simp
         with_reducible rfl
        rotate_left
        ·simp only [Act.put,List.setIfInBounds_toArray,List.set_cons_zero,List.set_cons_succ,i64_w,i32_w]
         rfl
        refine pure_ (i:=6) (N:=some 23) (v:=?_) (a':=?_) #[true,true,true,false,true,true,true,false,false,false] rfl rfl (any_of HT_.out (by kernel_rfl)) (fun _ _ _ h=>h) (Or.inl ⟨by rfl,?_⟩) ?_ ?_
        rotate_left
        ·intro w'
         go_simp
         with_reducible rfl
        rotate_left
        ·simp only [Act.put,List.setIfInBounds_toArray,List.set_cons_zero,List.set_cons_succ,i64_w,i32_w]
         rfl
        refine take_ (i:=3) (N:=some 20) (v:=?_) (a':=?_) #[true,true,true,true,true,true,true,false,false,false] rfl rfl (take_ofW HT_.out HW_.out (by kernel_rfl)) (fun _ _ _ h=>h) (Or.inl ⟨by rfl,?_⟩) hHeld ?_ ?_
        rotate_left
        ·rintro w' ⟨s0,s1,s2,s3,s4,s5⟩
         go_simp
         with_reducible rfl
        rotate_left
        ·simp only [Act.put,List.setIfInBounds_toArray,List.set_cons_zero,List.set_cons_succ,i64_w,i32_w]
         rfl
        refine take_ (i:=7) (N:=some 24) (v:=?_) (a':=?_) #[true,true,true,true,true,true,true,true,false,false] rfl rfl (take_ofW HT_.out HW_.out (by kernel_rfl)) (fun _ _ _ h=>h) (Or.inl ⟨by rfl,?_⟩) hHeld ?_ ?_
        rotate_left
        ·rintro w' ⟨s0,s1,s2,s3,s4,s5⟩
         go_simp
         with_reducible rfl
        rotate_left
        ·simp only [Act.put,List.setIfInBounds_toArray,List.set_cons_zero,List.set_cons_succ,i64_w,i32_w]
         rfl
        refine one_ (i:=8) (N:=some 25) #[true,true,true,true,true,true,true,true,true,false] rfl rfl (one_of HT_.out (by kernel_rfl)) (by decide) (fun K hK=>?_)
        refine goes_ Try.func107 (by kernel_rfl) rfl #[.agg #[.int .i64 ((rd_T56 l0 x5_1).f0),.int .i64 ((rd_T56 l0 x5_1).f1),.int .i64 ((rd_T56 l0 x5_1).f2)],.agg #[.int .i64 ((rd_T56 l1 x5_1).f0),.int .i64 ((rd_T56 l1 x5_1).f1),.int .i64 ((rd_T56 l1 x5_1).f2)]] (by rfl) rfl rfl (by (try simp only [List.map_toArray,List.map_cons,List.map_nil]);first|done|rfl|(simp only [List.length_drop,List.length_take];rfl)) ?_
        with_reducible refine (laws_eqEvent.calls ((rd_T56 l0 x5_1).f0) ((rd_T56 l0 x5_1).f1) ((rd_T56 l0 x5_1).f2) ((rd_T56 l1 x5_1).f0) ((rd_T56 l1 x5_1).f1) ((rd_T56 l1 x5_1).f2) true _ A7.out).mono ?_
        rintro e w10 ⟨rfl,hb⟩
        refine ⟨_,rfl,?_⟩
        have n0_:=Aside0.mk (below_step (by exact HB.out) hb)
        clear HB
        have HB:=n0_
        clear n0_
        (try clear hb)
        (try clear hb2)
        (try clear hk)
        (try clear hi)
        refine hK.out _ _ ⟨((HB.out.cell (World.block_lt_of_cell? w _ hw679_0)).trans hw679_0),((HB.out.cell (World.block_lt_of_cell? w _ hw679_1)).trans hw679_1),((HB.out.cell (World.block_lt_of_cell? w _ hw679_2)).trans hw679_2),((HB.out.cell (World.block_lt_of_cell? w _ hw680_0)).trans hw680_0),((HB.out.cell (World.block_lt_of_cell? w _ hw680_1)).trans hw680_1),((HB.out.cell (World.block_lt_of_cell? w _ hw680_2)).trans hw680_2)⟩ (fun hHeld=>?_)
        clear hK K
        refine norm_ (a':=?_) ?_ ?_
        rotate_left
        ·show Act.put _ (some 25) _=_
         simp only [Act.put,List.setIfInBounds_toArray,List.set_cons_zero,List.set_cons_succ,i64_w,i32_w]
         rfl
        refine pure_ (i:=9) (N:=some 26) (v:=?_) (a':=?_) #[true,true,true,true,true,true,true,true,true,true] rfl rfl (any_of HT_.out (by kernel_rfl)) (fun _ _ _ h=>h) (Or.inl ⟨by rfl,?_⟩) ?_ ?_
        rotate_left
        ·intro w'
         go_simp
         with_reducible rfl
        rotate_left
        ·simp only [Act.put,List.setIfInBounds_toArray,List.set_cons_zero,List.set_cons_succ,i64_w,i32_w]
         rfl
        refine done_ (done_of HT_.out (by kernel_rfl)) ?_
        try go_wp2
        go_roundg k1
        case measure=>have:=HK1.out;omega
        case rel=>exact ⟨(wrap64 (x5_1+1)),(by first|rfl|(simp;done)|(simp [*];done)),H',⟨by have:=HK1.out;omega⟩,⟨by exact HB.out⟩⟩
       replace c8:=Bool.eq_false_iff.mpr c8
       subst c8
       have H1:(some false)=some r:=by rw [if_neg (show ¬ (false=true) by decide)] at H;exact H
       clear H
       have H:=H1
       clear H1
       obtain rfl:=Option.some.inj H
       try go_wp2
       have n0_:=Aside0.mk (below_drew1 HB.out)
       clear HB
       have HB:=n0_
       clear n0_
       have p679:0≤(x5_1:Int):=of_decide_eq_true (by first|(with_reducible assumption)|assumption)
       have q679:x5_1<(l0.length:Int):=of_decide_eq_true (by first|(with_reducible assumption)|assumption)
       obtain ⟨ad679,e679,hx679_0,hx679_1,hx679_2⟩:=at_T56 HR0.out x5_1 p679 q679
       have hw679_2:=hx679_2
       have hw679_1:=hx679_1
       have hw679_0:=hx679_0
       cases e679
       replace hx679_0:=(HB.out.cell (World.block_lt_of_cell? w _ hx679_0)).trans hx679_0
       replace hx679_1:=(HB.out.cell (World.block_lt_of_cell? w _ hx679_1)).trans hx679_1
       replace hx679_2:=(HB.out.cell (World.block_lt_of_cell? w _ hx679_2)).trans hx679_2
       replace p679:=eq_true p679
       replace q679:=eq_true q679
       have p680:0≤(x5_1:Int):=of_decide_eq_true (by first|(with_reducible assumption)|assumption)
       have q680:x5_1<(l1.length:Int):=of_decide_eq_true (by first|(with_reducible assumption)|assumption)
       obtain ⟨ad680,e680,hx680_0,hx680_1,hx680_2⟩:=at_T56 HR1.out x5_1 p680 q680
       have hw680_2:=hx680_2
       have hw680_1:=hx680_1
       have hw680_0:=hx680_0
       cases e680
       replace hx680_0:=(HB.out.cell (World.block_lt_of_cell? w _ hx680_0)).trans hx680_0
       replace hx680_1:=(HB.out.cell (World.block_lt_of_cell? w _ hx680_1)).trans hx680_1
       replace hx680_2:=(HB.out.cell (World.block_lt_of_cell? w _ hx680_2)).trans hx680_2
       replace p680:=eq_true p680
       replace q680:=eq_true q680
       refine start_ (n:=10) (S:=fun w'=>w'.cell? (ad679.add ((x5_1).toNat * 3))=some (.int .i64 ((rd_T56 l0 x5_1).f0))∧w'.cell? ⟨(ad679.add ((x5_1).toNat * 3)).block,(ad679.add ((x5_1).toNat * 3)).off+1,none⟩=some (.int .i64 ((rd_T56 l0 x5_1).f1))∧w'.cell? ⟨(ad679.add ((x5_1).toNat * 3)).block,(ad679.add ((x5_1).toNat * 3)).off+2,none⟩=some (.int .i64 ((rd_T56 l0 x5_1).f2))∧w'.cell? (ad680.add ((x5_1).toNat * 3))=some (.int .i64 ((rd_T56 l1 x5_1).f0))∧w'.cell? ⟨(ad680.add ((x5_1).toNat * 3)).block,(ad680.add ((x5_1).toNat * 3)).off+1,none⟩=some (.int .i64 ((rd_T56 l1 x5_1).f1))∧w'.cell? ⟨(ad680.add ((x5_1).toNat * 3)).block,(ad680.add ((x5_1).toNat * 3)).off+2,none⟩=some (.int .i64 ((rd_T56 l1 x5_1).f2))) (ds:=[]) #[false,false,false,false,false,false,false,false,false,false] (by kernel_rfl) rfl rfl ⟨((HB.out.cell (World.block_lt_of_cell? w _ hw679_0)).trans hw679_0),((HB.out.cell (World.block_lt_of_cell? w _ hw679_1)).trans hw679_1),((HB.out.cell (World.block_lt_of_cell? w _ hw679_2)).trans hw679_2),((HB.out.cell (World.block_lt_of_cell? w _ hw680_0)).trans hw680_0),((HB.out.cell (World.block_lt_of_cell? w _ hw680_1)).trans hw680_1),((HB.out.cell (World.block_lt_of_cell? w _ hw680_2)).trans hw680_2)⟩ (fun hHeld=>?_);refine with_tabW laws_eqEventS.tab6 laws_eqEventS.bits6 (fun HT_ HW_=>?_)
       generalize wr.drew=w11 at HB hx679_0 hx679_1 hx679_2 hx680_0 hx680_1 hx680_2 hHeld ⊢
       refine pure_ (i:=0) (N:=some 17) (v:=?_) (a':=?_) #[true,false,false,false,false,false,false,false,false,false] rfl rfl (any_of HT_.out (by kernel_rfl)) (fun _ _ _ h=>h) (Or.inl ⟨by rfl,?_⟩) ?_ ?_
       rotate_left
       ·intro w'
        go_simp
        with_reducible rfl
       rotate_left
       ·simp only [Act.put,List.setIfInBounds_toArray,List.set_cons_zero,List.set_cons_succ,i64_w,i32_w]
        rfl
       refine pure_ (i:=1) (N:=some 18) (v:=?_) (a':=?_) #[true,true,false,false,false,false,false,false,false,false] rfl rfl (any_of HT_.out (by kernel_rfl)) (fun _ _ _ h=>h) (Or.inl ⟨by rfl,?_⟩) ?_ ?_
       rotate_left
       ·intro w'
        go_simp
        with_reducible rfl
       rotate_left
       ·simp only [Act.put,List.setIfInBounds_toArray,List.set_cons_zero,List.set_cons_succ,i64_w,i32_w]
        rfl
       refine pure_ (i:=2) (N:=some 19) (v:=?_) (a':=?_) #[true,true,true,false,false,false,false,false,false,false] rfl rfl (any_of HT_.out (by kernel_rfl)) (fun _ _ _ h=>h) (Or.inl ⟨by rfl,?_⟩) ?_ ?_
       rotate_left
       ·intro w'
        go_simp
        with_reducible rfl
       rotate_left
       ·simp only [Act.put,List.setIfInBounds_toArray,List.set_cons_zero,List.set_cons_succ,i64_w,i32_w]
        rfl
       refine pure_ (i:=4) (N:=some 21) (v:=?_) (a':=?_) #[true,true,true,false,true,false,false,false,false,false] rfl rfl (any_of HT_.out (by kernel_rfl)) (fun _ _ _ h=>h) (Or.inl ⟨by rfl,?_⟩) ?_ ?_
       rotate_left
       ·intro w'
        go_simp
        with_reducible rfl
       rotate_left
       ·simp only [Act.put,List.setIfInBounds_toArray,List.set_cons_zero,List.set_cons_succ,i64_w,i32_w]
        rfl
       refine pure_ (i:=5) (N:=some 22) (v:=?_) (a':=?_) #[true,true,true,false,true,true,false,false,false,false] rfl rfl (any_of HT_.out (by kernel_rfl)) (fun _ _ _ h=>h) (Or.inl ⟨by rfl,?_⟩) ?_ ?_
       rotate_left
       ·intro w'
        go_simp
        with_reducible rfl
       rotate_left
       ·simp only [Act.put,List.setIfInBounds_toArray,List.set_cons_zero,List.set_cons_succ,i64_w,i32_w]
        rfl
       refine pure_ (i:=6) (N:=some 23) (v:=?_) (a':=?_) #[true,true,true,false,true,true,true,false,false,false] rfl rfl (any_of HT_.out (by kernel_rfl)) (fun _ _ _ h=>h) (Or.inl ⟨by rfl,?_⟩) ?_ ?_
       rotate_left
       ·intro w'
        go_simp
        with_reducible rfl
       rotate_left
       ·simp only [Act.put,List.setIfInBounds_toArray,List.set_cons_zero,List.set_cons_succ,i64_w,i32_w]
        rfl
       refine take_ (i:=3) (N:=some 20) (v:=?_) (a':=?_) #[true,true,true,true,true,true,true,false,false,false] rfl rfl (take_ofW HT_.out HW_.out (by kernel_rfl)) (fun _ _ _ h=>h) (Or.inl ⟨by rfl,?_⟩) hHeld ?_ ?_
       rotate_left
       ·rintro w' ⟨s0,s1,s2,s3,s4,s5⟩
        go_simp
        with_reducible rfl
       rotate_left
       ·simp only [Act.put,List.setIfInBounds_toArray,List.set_cons_zero,List.set_cons_succ,i64_w,i32_w]
        rfl
       refine take_ (i:=7) (N:=some 24) (v:=?_) (a':=?_) #[true,true,true,true,true,true,true,true,false,false] rfl rfl (take_ofW HT_.out HW_.out (by kernel_rfl)) (fun _ _ _ h=>h) (Or.inl ⟨by rfl,?_⟩) hHeld ?_ ?_
       rotate_left
       ·rintro w' ⟨s0,s1,s2,s3,s4,s5⟩
        go_simp
        with_reducible rfl
       rotate_left
       ·simp only [Act.put,List.setIfInBounds_toArray,List.set_cons_zero,List.set_cons_succ,i64_w,i32_w]
        rfl
       refine one_ (i:=8) (N:=some 25) #[true,true,true,true,true,true,true,true,true,false] rfl rfl (one_of HT_.out (by kernel_rfl)) (by decide) (fun K hK=>?_)
       refine goes_ Try.func107 (by kernel_rfl) rfl #[.agg #[.int .i64 ((rd_T56 l0 x5_1).f0),.int .i64 ((rd_T56 l0 x5_1).f1),.int .i64 ((rd_T56 l0 x5_1).f2)],.agg #[.int .i64 ((rd_T56 l1 x5_1).f0),.int .i64 ((rd_T56 l1 x5_1).f1),.int .i64 ((rd_T56 l1 x5_1).f2)]] (by rfl) rfl rfl (by (try simp only [List.map_toArray,List.map_cons,List.map_nil]);first|done|rfl|(simp only [List.length_drop,List.length_take];rfl)) ?_
       with_reducible refine (laws_eqEvent.calls ((rd_T56 l0 x5_1).f0) ((rd_T56 l0 x5_1).f1) ((rd_T56 l0 x5_1).f2) ((rd_T56 l1 x5_1).f0) ((rd_T56 l1 x5_1).f1) ((rd_T56 l1 x5_1).f2) false _ A7.out).mono ?_
       rintro e w12 ⟨rfl,hb⟩
       refine ⟨_,rfl,?_⟩
       have n0_:=Aside0.mk (below_step (by exact HB.out) hb)
       clear HB
       have HB:=n0_
       clear n0_
       (try clear hb)
       (try clear hb2)
       (try clear hk)
       (try clear hi)
       refine hK.out _ _ ⟨((HB.out.cell (World.block_lt_of_cell? w _ hw679_0)).trans hw679_0),((HB.out.cell (World.block_lt_of_cell? w _ hw679_1)).trans hw679_1),((HB.out.cell (World.block_lt_of_cell? w _ hw679_2)).trans hw679_2),((HB.out.cell (World.block_lt_of_cell? w _ hw680_0)).trans hw680_0),((HB.out.cell (World.block_lt_of_cell? w _ hw680_1)).trans hw680_1),((HB.out.cell (World.block_lt_of_cell? w _ hw680_2)).trans hw680_2)⟩ (fun hHeld=>?_)
       clear hK K
       refine norm_ (a':=?_) ?_ ?_
       rotate_left
       ·show Act.put _ (some 25) _=_
        simp only [Act.put,List.setIfInBounds_toArray,List.set_cons_zero,List.set_cons_succ,i64_w,i32_w]
        rfl
       refine pure_ (i:=9) (N:=some 26) (v:=?_) (a':=?_) #[true,true,true,true,true,true,true,true,true,true] rfl rfl (any_of HT_.out (by kernel_rfl)) (fun _ _ _ h=>h) (Or.inl ⟨by rfl,?_⟩) ?_ ?_
       rotate_left
       ·intro w'
        go_simp
        with_reducible rfl
       rotate_left
       ·simp only [Act.put,List.setIfInBounds_toArray,List.set_cons_zero,List.set_cons_succ,i64_w,i32_w]
        rfl
       refine done_ (done_of HT_.out (by kernel_rfl)) ?_
       try go_wp2
       go_ret
       exact ⟨by first|rfl|(simp [errW_none,errW_some] <;> rfl)|(simp [*,errW_none,errW_some] <;> rfl),by exact HB.out⟩
      rw [if_neg c6] at H
      exact absurd H (by simp)
     rw [if_neg c5] at H
     exact absurd H (by simp)
    rw [if_neg c4] at H
    have c4b0:decide (x5_1<(l0.length:Int))=false:=decide_eq_false c4
    clear c4
    obtain rfl:=Option.some.inj H
    go_wp2
    go_ret
    exact ⟨by first|rfl|(simp [errW_none,errW_some] <;> rfl)|(simp [*,errW_none,errW_some] <;> rfl),by exact HB.out⟩
 rw [if_neg c3] at H
 have c3b0:((l0.length:Int)==(l1.length:Int))=false:=beq_eq_false_iff_ne.mpr c3
 have c3b1:((l0.length:Int) != (l1.length:Int))=true:=bne_iff_ne.mpr c3
 have c3b2:(l0.length==l1.length)=false:=by first|simpa using c3|(simp at c3 ⊢;omega)
 obtain rfl:=Option.some.inj H
 go_enter Try.func52,Try.ntmps52
 go_wp2
 go_ret
 exact ⟨by first|rfl|(simp [errW_none,errW_some] <;> rfl)|(simp [*,errW_none,errW_some] <;> rfl),by exact HB.out⟩
end Go.Proofs.Ytpdnabhpkdchjaa.P
namespace Go.Proofs.Ytpdnabhpkdchjaa.P
open Go.RowKit Go.Proofs.YtpdnabhpkdchjaaW.PrintWords Go.Proofs.YtpdnabhpkdchjaaW.PrintLast
set_option linter.unusedVariables false
set_option linter.unusedSimpArgs false
theorem eqEventS_l0 (l : List S56) (hl : l.length ≤ 1048576) (d : Nat) : ∀ (i : Nat), i + d = l.length → Ev (fun k => laws_eqEventS.l0 k l l i) true := by
  induction d with
  | zero => intro i hi; refine Ev.step1 fun k => ?_; simp only [laws_eqEventS.l0]; rw [if_neg (by omega)]
  | succ d ih =>
    intro i hi
    refine Ev.step (fun k => ?_) (ih (i + 1) (by omega))
    simp only [laws_eqEventS.l0, laws_eqEvent.f, if_true, Option.bind_some]
    rw [if_pos (by omega), if_pos (by omega), if_pos (by omega), wrap_succ (by omega)]
theorem eqEventS_ev (l : List S56) (hl : l.length ≤ 1048576) : Ev (fun k => laws_eqEventS.f k l l) true := by
  unfold laws_eqEventS.f
  exact Ev.ite_pos rfl (eqEventS_l0 l hl l.length 0 (by omega))
end Go.Proofs.Ytpdnabhpkdchjaa.P
namespace Go.Proofs.Ytpdnabhpkdchjaa.P
open Go.RowKit Go.Proofs.YtpdnabhpkdchjaaW.PrintWords Go.Proofs.YtpdnabhpkdchjaaW.PrintLast Go.Proofs.YtpdnabhpkdchjaaW.PrintMore
set_option linter.unusedVariables false
section
variable {n : Int} {A : Option Addr} {c : Nat} {l : List S88} {w : World}
theorem lay_is (hr : Kd.C k88 w A l.length l) (hc : l.length ≤ c) : Calls Try.prog 25 #[.agg #[.int .i64 n, .slice A l.length c]] w fun e w' => e = .returned (.int .i64 (layoutOk n l)) ∧ Below w.heap.size w w' :=
  impl_LayoutOk.calls n A c l _ w hr hc rfl
theorem slay_is (hr : Kd.C k88 w A l.length l) (hc : l.length ≤ c) : Calls Try.prog 23 #[.agg #[.int .i64 n, .slice A l.length c]] w fun e w' => e = .returned (.int .i64 (layoutOk n l)) ∧ Below w.heap.size w w' := by
  obtain ⟨k, h⟩ := (specLayoutOk_ev n l).rounds
  exact spec_LayoutOk.calls k n A c l _ w hr hc h
theorem lay_at {k : Int} (hk : layoutOk n l = k) (hr : Kd.C k88 w A l.length l) (hc : l.length ≤ c) : Calls Try.prog 25 #[.agg #[.int .i64 n, .slice A l.length c]] w fun e w' => e = .returned (.int .i64 k) ∧ Below w.heap.size w w' := hk ▸ lay_is hr hc
variable {A1 : Option Addr} {c1 : Nat} {es : List S56}
end
end Go.Proofs.Ytpdnabhpkdchjaa.P
namespace Go.Proofs.Ytpdnabhpkdchjaa.P
open Go Go.RowKit Go.Proofs.YtpdnabhpkdchjaaW.PrintWords Go.Proofs.YtpdnabhpkdchjaaW.PrintLast Go.Proofs.YtpdnabhpkdchjaaW.PrintMore
set_option linter.unusedVariables false
def upto (n k : Nat) : Array Bool := (List.replicate k true ++ List.replicate (n - k) false).toArray
section
variable {P : Program} {md : Region.Mode} {ops : Array Oper} {T : Bool × List (List Nat × List Nat)} {B : List Nat} {Q : Exit → Act → World → Prop} {S : World → Prop} {ds : List Nat} {n k fuel : Nat} {N : Option Tmp} {oi : Oper} {v : Value} {a a' : Act} {w : World} {op : Op} {ty : TypeId} {pos : String} {af : Array Edge} {gu : Option (Nat × Bool)}
theorem wanted_none (hg : oi.guard = none) (y : Nat → Option Bool) : Region.wanted oi y = true := by unfold Region.wanted; rw [hg]
theorem wanted_yes {j : Nat} {u b : Bool} {y : Nat → Option Bool} (hg : oi.guard = some (j, u)) (hb : y j = some b) (he : (b == u) = true) : Region.wanted oi y = true := by
  unfold Region.wanted
  rw [hg]
  dsimp only
  rw [hb]
  cases b <;> cases u <;> first | rfl | cases he
theorem wanted_no {j : Nat} {u b : Bool} {y : Nat → Option Bool} (hg : oi.guard = some (j, u)) (hb : y j = some b) (he : (b == u) = false) : Region.wanted oi y = false := by
  unfold Region.wanted
  rw [hg]
  dsimp only
  rw [hb]
  cases b <;> cases u <;> first | rfl | cases he
theorem upto_zero (n : Nat) : Array.replicate n false = upto n 0 := by simp [upto]
theorem startK {id : Nat} (n : Nat) (hm : P.follows .mixedOrders = true) (hn : ops.size = n) (hS : S w.drew) (h : S w.drew → wpAnyLast P .any ops Q S ds n (upto n 0) a w.drew) : (Code.region id ops true).wp P Q a w := start_ (upto n 0) hm hn (upto_zero n) hS h
theorem take0 {k' : Nat} (hk : k + 1 = k') (hi : ops[k]? = some ⟨N, op, ty, pos, af, none⟩) (hT : rtab md ops = T) (hB : waitsOk T.2 B = true) (hc : takeW T B ds (upto n k).toList (upto n k').toList k = true) (hQ : ∀ c a w, Q (.panic c) (a.put N v) w → Q (.panic c) a w) (hS : S w) (hy : ∀ w, S w → (execOp a.eval ⟨N, op, ty, pos, af, none⟩).run P w = .ok (.value v) w) (ha : a.put N v = a') (h : wpAnyLast P md ops Q S ds fuel (upto n k') a' w) : wpAnyLast P md ops Q S ds (fuel + 1) (upto n k) a w :=
  take_ (upto n k') hi rfl (take_ofW hT hB hc) hQ (Or.inl ⟨wanted_none rfl _, hy⟩) hS ha h
theorem takeG {k' j : Nat} {u b : Bool} (hk : k + 1 = k') (hi : ops[k]? = some ⟨N, op, ty, pos, af, some (j, u)⟩) (hb : yielded ops a.tmps j = some b) (hT : rtab md ops = T) (hB : waitsOk T.2 B = true) (hc : takeW T B ds (upto n k).toList (upto n k').toList k = true) (hQ : ∀ c a w, Q (.panic c) (a.put N v) w → Q (.panic c) a w) (hS : S w) (hy : if (b == u) = true then ∀ w, S w → (execOp a.eval ⟨N, op, ty, pos, af, some (j, u)⟩).run P w = .ok (.value v) w else v = undef) (ha : a.put N v = a') (h : wpAnyLast P md ops Q S ds fuel (upto n k') a' w) : wpAnyLast P md ops Q S ds (fuel + 1) (upto n k) a w := by
  refine take_ (upto n k') hi rfl (take_ofW hT hB hc) hQ ?_ hS ha h
  cases he : (b == u) with
  | true => rw [he, if_pos rfl] at hy; exact Or.inl ⟨wanted_yes rfl hb he, hy⟩
  | false => rw [he, if_neg (by decide)] at hy; exact Or.inr ⟨wanted_no rfl hb he, hy⟩
theorem oneK {k' : Nat} (hk : k + 1 = k') (hi : ops[k]? = some ⟨N, op, ty, pos, af, gu⟩) (hT : rtab md ops = T) (hc : (readyT T.2 (upto n k).toList == [k] && (upto n k).toList.set k true == (upto n k').toList) = true) (hd : k ∉ ds)
    (h : ∀ K : Act → World → Prop, Shut (∀ a' w', S w' → (S w' → wpAnyLast P md ops Q S ds fuel (upto n k') a' w') → K a' w') → if Region.wanted ⟨N, op, ty, pos, af, gu⟩ (yielded ops a.tmps) = true then Oper.wp P ⟨N, op, ty, pos, af, gu⟩ a w K Q else K (a.put N undef) w) : wpAnyLast P md ops Q S ds (fuel + 1) (upto n k) a w :=
  one_ (upto n k') hi rfl (one_of hT hc) hd h
end
end Go.Proofs.Ytpdnabhpkdchjaa.P
namespace Go.Proofs.Ytpdnabhpkdchjaa.P
open Go.RowKit Go.Proofs.YtpdnabhpkdchjaaW.PrintWords Go.Proofs.YtpdnabhpkdchjaaW.PrintLast Go.Proofs.YtpdnabhpkdchjaaW.PrintMore
set_option linter.unusedVariables false
set_option linter.unusedSimpArgs false
def sp_T18 : Bool × List (List Nat × List Nat) := (true, [([], []), ([0], [0]), ([1], [1]), ([2], [2]), ([2], [2]), ([3, 4, 2], [2, 3, 4]), ([5, 2], [2, 5]), ([2], [2]), ([2], [2]), ([8, 2], [2, 8]), ([7, 9, 2], [2, 7, 9]), ([10, 2], [2, 10]), ([6, 11, 2, 2], [2, 6, 11]), ([2, 12], [2, 12])])
def sp_B18 : List Nat := [0, 1, 3, 7, 7, 31, 63, 7, 7, 263, 903, 1927, 4095, 8191]
theorem sp_tab18 : rtab .any (opsOf Try.f80 18) = sp_T18 := by kernel_rfl
theorem sp_bits18 : waitsOk sp_T18.2 sp_B18 = true := by kernel_rfl
theorem infoE56 : (Try.prog.info? 56).map (fun i => (i.zero, i.size, i.bytes)) = some (some (.agg #[(.int .i64 0), (.int .i64 0), (.int .i64 0)]), 3, 24) := by kernel_rfl
theorem fill3t {w w' : World} {g t : Nat} {x0 x1 x2 y0 y1 y2 : Value} (hx : w'.heap[g]? = some (.cells #[x0, x1, x2] t (0, 0))) (hb : Below w.heap.size w w') (hg : w.heap.size ≤ g) :
    Below w.heap.size w (((w'.setCell ⟨g, 0, none⟩ y0).setCell ⟨g, 1, none⟩ y1).setCell ⟨g, 2, none⟩ y2) ∧ (((w'.setCell ⟨g, 0, none⟩ y0).setCell ⟨g, 1, none⟩ y1).setCell ⟨g, 2, none⟩ y2).heap[g]? = some (.cells #[y0, y1, y2] t (0, 0)) :=
  ⟨below_set (j := 2) (v := y2) (below_set (j := 1) (v := y1) (below_set (j := 0) (v := y0) hb hg) hg) hg, blk_put (blk_put (blk_put hx 0 y0 rfl) 1 y1 rfl) 2 y2 rfl⟩
section
variable {n : Int} {A A1 A2 : Option Addr} {c c1 c2 : Nat} {l : List S88} {ps : List S143} {ax : List Int} {w : World}
theorem slay_at {k : Int} (hk : layoutOk n l = k) (hr : Kd.C k88 w A l.length l) (hc : l.length ≤ c) : Calls Try.prog 23 #[.agg #[.int .i64 n, .slice A l.length c]] w fun e w' => e = .returned (.int .i64 k) ∧ Below w.heap.size w w' := hk ▸ slay_is hr hc
theorem sposts_at {b : Bool} (hb : (postsTo l ps ps.length && decide (ps.length ≤ 120)) = b) (hl : layoutOk n l = 0) (hp : ps.length ≤ 1048576) (hr : Kd.C k88 w A l.length l) (hc : l.length ≤ c) (hr1 : Kd.C k143 w A1 ps.length ps) (hc1 : ps.length ≤ c1) :
    Calls Try.prog 123 #[.agg #[.int .i64 n, .slice A l.length c], .slice A1 ps.length c1] w fun e w' => e = .returned (.bool b) ∧ Below w.heap.size w w' := by
  obtain ⟨k, h⟩ := (specPosts_l0 hl hp ps.length 0 (by omega) rfl).rounds
  exact hb ▸ spec_l1posts.calls k n A c l A1 c1 ps _ w hr hc hr1 hc1 h
theorem saxles_at {b : Bool} (hb : (axlesTo ax ax.length && decide (ax.length ≤ 200)) = b) (ha : ax.length ≤ 1048576) (hr2 : Kd.C (Kd.int .i64) w A2 ax.length ax) (hc2 : ax.length ≤ c2) :
    Calls Try.prog 124 #[.slice A2 ax.length c2] w fun e w' => e = .returned (.bool b) ∧ Below w.heap.size w w' := by
  obtain ⟨k, h⟩ := (specAxles_l0 ha ax.length 0 (by omega) rfl).rounds
  exact hb ▸ (spec_l1axles.calls k A2 c2 ax _ w hr2 hc2 h).mono fun e w' ⟨he, hd⟩ => ⟨he, hd.below⟩
theorem sin_at {x a b : Int} {y : Bool} (h : (decide (a ≤ x) && decide (x ≤ b)) = y) : Calls Try.prog 87 #[.int .i64 x, .int .i64 a, .int .i64 b] w fun e w' => e = .returned (.bool y) ∧ Below w.heap.size w w' :=
  (spec_l1in.calls x a b y w (by rw [l1in_eq, h])).mono fun e w' ⟨he, hd⟩ => ⟨he, hd.below⟩
theorem sbef_at {x y : S154} {b : Bool} (h : befM x y = b) : Calls Try.prog 125 #[.agg #[.int .i64 x.f0, .int .i64 x.f1, .int .i64 x.f2], .agg #[.int .i64 y.f0, .int .i64 y.f1, .int .i64 y.f2]] w fun e w' => e = .returned (.bool b) ∧ Below w.heap.size w w' :=
  spec_l1before.calls x.f0 x.f1 x.f2 y.f0 y.f1 y.f2 b w (by rw [← h]; unfold spec_l1before.f befM; split <;> rfl)
theorem met_put {base : Nat} {ok : Nat → Prop} {g m : Nat} {xs : List S154} (h : Kd.R k154 154 w base ok (.slice (some ⟨g, 0, none⟩) m c) xs) (i : Nat) (h1 : i < m) (y : S154) :
    Kd.R k154 154 (((w.setCell ⟨g, i * 3, none⟩ (.int .i64 y.f0)).setCell ⟨g, i * 3 + 1, none⟩ (.int .i64 y.f1)).setCell ⟨g, i * 3 + 2, none⟩ (.int .i64 y.f2)) base ok (.slice (some ⟨g, 0, none⟩) m c) (xs.set i y) ∧
      w.grownBy (((w.setCell ⟨g, i * 3, none⟩ (.int .i64 y.f0)).setCell ⟨g, i * 3 + 1, none⟩ (.int .i64 y.f1)).setCell ⟨g, i * 3 + 2, none⟩ (.int .i64 y.f2)) (some g) := by
  obtain ⟨ce, hcl, hM, hcc, hfr⟩ := Kd.R_elem h z154 (i : Int) (by omega) (by omega)
  have HP := Kd.R_seg h (i : Int) (by omega) (by omega) (seg := [.int .i64 y.f0, .int .i64 y.f1, .int .i64 y.f2]) (j := 0) (okp := fun k => ok k ∧ k ≠ g) hcl hcc (show 0 + 3 ≤ 3 by omega) (x' := y) (by
    have hd : ce.drop (0 + [Value.int .i64 y.f0, .int .i64 y.f1, .int .i64 y.f2].length) = [] := List.drop_eq_nil_of_le (by rw [hcl]; exact Nat.le_refl _)
    rw [hd, List.take_zero, List.nil_append, List.append_nil]
    exact k154_mkM _ _ _ y) (fun _ hk => hk)
  rw [Int.toNat_natCast] at HP
  exact HP
theorem met_at {base : Nat} {ok : Nat → Prop} {g m : Nat} {xs : List S154} (h : Kd.R k154 154 w base ok (.slice (some ⟨g, 0, none⟩) m c) xs) (i : Nat) (h1 : i < m) :
    w.cell? ⟨g, i * 3, none⟩ = some (.int .i64 (rd_T154 xs (i : Int)).f0) ∧ w.cell? ⟨g, i * 3 + 1, none⟩ = some (.int .i64 (rd_T154 xs (i : Int)).f1) ∧ w.cell? ⟨g, i * 3 + 2, none⟩ = some (.int .i64 (rd_T154 xs (i : Int)).f2) ∧ ∀ j, w.frozen? ⟨g, i * 3 + j, none⟩ = false := by
  obtain ⟨ce, hcl, hM, hcc, hfr⟩ := Kd.R_elem h z154 (i : Int) (by omega) (by omega)
  obtain rfl := k154_openM hM
  rw [Int.toNat_natCast] at hcc hfr
  exact ⟨hcc 0 _ rfl, hcc 1 _ rfl, hcc 2 _ rfl, fun j => hfr j⟩
end
set_option maxHeartbeats 16000000 in
set_option maxRecDepth 100000 in
theorem spass_no0 (n : Int) (A : Option Addr) (c : Nat) (l : List S88) (A1 : Option Addr) (c1 : Nat) (ps : List S143) (A2 : Option Addr) (c2 : Nat) (ax : List Int) (fr tt : Int) (w : World) (hr : Kd.C k88 w A l.length l) (hc : l.length ≤ c) (hr1 : Kd.C k143 w A1 ps.length ps) (hc1 : ps.length ≤ c1) (hr2 : Kd.C (Kd.int .i64) w A2 ax.length ax) (hc2 : ax.length ≤ c2) (hp : ps.length ≤ 1048576) (ha : ax.length ≤ 1048576) (k0 : Int) (t0 : layoutOk n l = k0) (hk0 : (k0 != 0) = true) :
    Calls Try.prog 80 #[.agg #[.int .i64 n, .slice A l.length c], .slice A1 ps.length c1, .slice A2 ax.length c2, .int .i64 fr, .int .i64 tt] w fun e w' => ∃ v0_ : Value, e = .returned v0_ ∧ Kd.R k56 56 w' w.heap.size (fun _ => True) v0_ ([]) ∧ Below w.heap.size w w' := by
  have HR := Aside0.mk hr
  have HC := Aside0.mk hc
  have HR1 := Aside0.mk hr1
  have HC1 := Aside0.mk hc1
  have HR2 := Aside0.mk hr2
  have HC2 := Aside0.mk hc2
  have HP := Aside0.mk hp
  have HA := Aside0.mk ha
  clear hr hc hr1 hc1 hr2 hc2 hp ha
  have T0 := Aside0.mk t0
  clear t0
  go_enter Try.func80, Try.ntmps80
  go_upto_region 1 with ((with_reducible refine gate_dst (N := 5) rfl ?_); refine box_event ?hg (N := 5) ?hd (cs := #[.int .i64 n, .slice A l.length c]) (t := 30) ?hr ?_; (case hd => rfl); (case hg => rfl); (case hr => first | (go_simp; done) | (go_simp; rfl)); intro gl el wl kl bl; clear el; have KL := Aside0.mk kl; have BL := Aside0.mk bl; clear kl bl)
  have kl0 : wl.cell? ⟨gl, 0, none⟩ = some (.int .i64 n) := (blk_cell KL.out 0).trans rfl
  have kl1 : wl.cell? ⟨gl, 1, none⟩ = some (.slice A l.length c) := (blk_cell KL.out 1).trans rfl
  go_wp2_with (first | (go_at_call 23; refine (slay_at T0.out (Kd.C_below HR.out BL.out) HC.out).mono ?_; rintro e w1 ⟨rfl, hb⟩; have KL := Aside0.mk (blk_below KL.out hb); have BL := Aside0.mk (below_step BL.out hb); clear hb kl0 kl1; have kl0 : w1.cell? ⟨gl, 0, none⟩ = some (.int .i64 n) := (blk_cell KL.out 0).trans rfl; have kl1 : w1.cell? ⟨gl, 1, none⟩ = some (.slice A l.length c) := (blk_cell KL.out 1).trans rfl))
  go_ret
  exact ⟨_, rfl, Kd.R_nil _ _ _ _ _, BL.out⟩
set_option maxHeartbeats 16000000 in
set_option maxRecDepth 100000 in
theorem spass_no1 (n : Int) (A : Option Addr) (c : Nat) (l : List S88) (A1 : Option Addr) (c1 : Nat) (ps : List S143) (A2 : Option Addr) (c2 : Nat) (ax : List Int) (fr tt : Int) (w : World) (hr : Kd.C k88 w A l.length l) (hc : l.length ≤ c) (hr1 : Kd.C k143 w A1 ps.length ps) (hc1 : ps.length ≤ c1) (hr2 : Kd.C (Kd.int .i64) w A2 ax.length ax) (hc2 : ax.length ≤ c2) (hp : ps.length ≤ 1048576) (ha : ax.length ≤ 1048576) (t0 : layoutOk n l = 0) (t1 : (postsTo l ps ps.length && decide (ps.length ≤ 120)) = false) :
    Calls Try.prog 80 #[.agg #[.int .i64 n, .slice A l.length c], .slice A1 ps.length c1, .slice A2 ax.length c2, .int .i64 fr, .int .i64 tt] w fun e w' => ∃ v0_ : Value, e = .returned v0_ ∧ Kd.R k56 56 w' w.heap.size (fun _ => True) v0_ ([]) ∧ Below w.heap.size w w' := by
  have HR := Aside0.mk hr
  have HC := Aside0.mk hc
  have HR1 := Aside0.mk hr1
  have HC1 := Aside0.mk hc1
  have HR2 := Aside0.mk hr2
  have HC2 := Aside0.mk hc2
  have HP := Aside0.mk hp
  have HA := Aside0.mk ha
  clear hr hc hr1 hc1 hr2 hc2 hp ha
  have T0 := Aside0.mk t0
  have T1 := Aside0.mk t1
  have LO := Aside0.mk t0
  clear t0 t1
  go_enter Try.func80, Try.ntmps80
  go_upto_region 1 with ((with_reducible refine gate_dst (N := 5) rfl ?_); refine box_event ?hg (N := 5) ?hd (cs := #[.int .i64 n, .slice A l.length c]) (t := 30) ?hr ?_; (case hd => rfl); (case hg => rfl); (case hr => first | (go_simp; done) | (go_simp; rfl)); intro gl el wl kl bl; clear el; have KL := Aside0.mk kl; have BL := Aside0.mk bl; clear kl bl)
  have kl0 : wl.cell? ⟨gl, 0, none⟩ = some (.int .i64 n) := (blk_cell KL.out 0).trans rfl
  have kl1 : wl.cell? ⟨gl, 1, none⟩ = some (.slice A l.length c) := (blk_cell KL.out 1).trans rfl
  go_wp2_with (first | (go_at_call 23; refine (slay_at T0.out (Kd.C_below HR.out BL.out) HC.out).mono ?_; rintro e w1 ⟨rfl, hb⟩; have KL := Aside0.mk (blk_below KL.out hb); have BL := Aside0.mk (below_step BL.out hb); clear hb kl0 kl1; have kl0 : w1.cell? ⟨gl, 0, none⟩ = some (.int .i64 n) := (blk_cell KL.out 0).trans rfl; have kl1 : w1.cell? ⟨gl, 1, none⟩ = some (.slice A l.length c) := (blk_cell KL.out 1).trans rfl) | (go_at_call 123; refine (sposts_at T1.out LO.out HP.out (Kd.C_below HR.out BL.out) HC.out (Kd.C_below HR1.out BL.out) HC1.out).mono ?_; rintro e w2 ⟨rfl, hb⟩; have KL := Aside0.mk (blk_below KL.out hb); have BL := Aside0.mk (below_step BL.out hb); clear hb kl0 kl1; have kl0 : w2.cell? ⟨gl, 0, none⟩ = some (.int .i64 n) := (blk_cell KL.out 0).trans rfl; have kl1 : w2.cell? ⟨gl, 1, none⟩ = some (.slice A l.length c) := (blk_cell KL.out 1).trans rfl))
  go_ret
  exact ⟨_, rfl, Kd.R_nil _ _ _ _ _, BL.out⟩
set_option maxHeartbeats 16000000 in
set_option maxRecDepth 100000 in
theorem spass_no2 (n : Int) (A : Option Addr) (c : Nat) (l : List S88) (A1 : Option Addr) (c1 : Nat) (ps : List S143) (A2 : Option Addr) (c2 : Nat) (ax : List Int) (fr tt : Int) (w : World) (hr : Kd.C k88 w A l.length l) (hc : l.length ≤ c) (hr1 : Kd.C k143 w A1 ps.length ps) (hc1 : ps.length ≤ c1) (hr2 : Kd.C (Kd.int .i64) w A2 ax.length ax) (hc2 : ax.length ≤ c2) (hp : ps.length ≤ 1048576) (ha : ax.length ≤ 1048576) (t0 : layoutOk n l = 0) (t1 : (postsTo l ps ps.length && decide (ps.length ≤ 120)) = true) (t2 : (axlesTo ax ax.length && decide (ax.length ≤ 200)) = false) :
    Calls Try.prog 80 #[.agg #[.int .i64 n, .slice A l.length c], .slice A1 ps.length c1, .slice A2 ax.length c2, .int .i64 fr, .int .i64 tt] w fun e w' => ∃ v0_ : Value, e = .returned v0_ ∧ Kd.R k56 56 w' w.heap.size (fun _ => True) v0_ ([]) ∧ Below w.heap.size w w' := by
  have HR := Aside0.mk hr
  have HC := Aside0.mk hc
  have HR1 := Aside0.mk hr1
  have HC1 := Aside0.mk hc1
  have HR2 := Aside0.mk hr2
  have HC2 := Aside0.mk hc2
  have HP := Aside0.mk hp
  have HA := Aside0.mk ha
  clear hr hc hr1 hc1 hr2 hc2 hp ha
  have T0 := Aside0.mk t0
  have T1 := Aside0.mk t1
  have T2 := Aside0.mk t2
  have LO := Aside0.mk t0
  clear t0 t1 t2
  go_enter Try.func80, Try.ntmps80
  go_upto_region 1 with ((with_reducible refine gate_dst (N := 5) rfl ?_); refine box_event ?hg (N := 5) ?hd (cs := #[.int .i64 n, .slice A l.length c]) (t := 30) ?hr ?_; (case hd => rfl); (case hg => rfl); (case hr => first | (go_simp; done) | (go_simp; rfl)); intro gl el wl kl bl; clear el; have KL := Aside0.mk kl; have BL := Aside0.mk bl; clear kl bl)
  have kl0 : wl.cell? ⟨gl, 0, none⟩ = some (.int .i64 n) := (blk_cell KL.out 0).trans rfl
  have kl1 : wl.cell? ⟨gl, 1, none⟩ = some (.slice A l.length c) := (blk_cell KL.out 1).trans rfl
  go_wp2_with (first | (go_at_call 23; refine (slay_at T0.out (Kd.C_below HR.out BL.out) HC.out).mono ?_; rintro e w1 ⟨rfl, hb⟩; have KL := Aside0.mk (blk_below KL.out hb); have BL := Aside0.mk (below_step BL.out hb); clear hb kl0 kl1; have kl0 : w1.cell? ⟨gl, 0, none⟩ = some (.int .i64 n) := (blk_cell KL.out 0).trans rfl; have kl1 : w1.cell? ⟨gl, 1, none⟩ = some (.slice A l.length c) := (blk_cell KL.out 1).trans rfl) | (go_at_call 123; refine (sposts_at T1.out LO.out HP.out (Kd.C_below HR.out BL.out) HC.out (Kd.C_below HR1.out BL.out) HC1.out).mono ?_; rintro e w2 ⟨rfl, hb⟩; have KL := Aside0.mk (blk_below KL.out hb); have BL := Aside0.mk (below_step BL.out hb); clear hb kl0 kl1; have kl0 : w2.cell? ⟨gl, 0, none⟩ = some (.int .i64 n) := (blk_cell KL.out 0).trans rfl; have kl1 : w2.cell? ⟨gl, 1, none⟩ = some (.slice A l.length c) := (blk_cell KL.out 1).trans rfl) | (go_at_call 124; refine (saxles_at T2.out HA.out (Kd.C_below HR2.out BL.out) HC2.out).mono ?_; rintro e w3 ⟨rfl, hb⟩; have KL := Aside0.mk (blk_below KL.out hb); have BL := Aside0.mk (below_step BL.out hb); clear hb kl0 kl1; have kl0 : w3.cell? ⟨gl, 0, none⟩ = some (.int .i64 n) := (blk_cell KL.out 0).trans rfl; have kl1 : w3.cell? ⟨gl, 1, none⟩ = some (.slice A l.length c) := (blk_cell KL.out 1).trans rfl))
  go_ret
  exact ⟨_, rfl, Kd.R_nil _ _ _ _ _, BL.out⟩
set_option maxHeartbeats 16000000 in
set_option maxRecDepth 100000 in
theorem spass_no3 (n : Int) (A : Option Addr) (c : Nat) (l : List S88) (A1 : Option Addr) (c1 : Nat) (ps : List S143) (A2 : Option Addr) (c2 : Nat) (ax : List Int) (fr tt : Int) (w : World) (hr : Kd.C k88 w A l.length l) (hc : l.length ≤ c) (hr1 : Kd.C k143 w A1 ps.length ps) (hc1 : ps.length ≤ c1) (hr2 : Kd.C (Kd.int .i64) w A2 ax.length ax) (hc2 : ax.length ≤ c2) (hp : ps.length ≤ 1048576) (ha : ax.length ≤ 1048576) (t0 : layoutOk n l = 0) (t1 : (postsTo l ps ps.length && decide (ps.length ≤ 120)) = true) (t2 : (axlesTo ax ax.length && decide (ax.length ≤ 200)) = true) (t3 : (decide (0 ≤ fr) && decide (fr ≤ 1000000)) = false) :
    Calls Try.prog 80 #[.agg #[.int .i64 n, .slice A l.length c], .slice A1 ps.length c1, .slice A2 ax.length c2, .int .i64 fr, .int .i64 tt] w fun e w' => ∃ v0_ : Value, e = .returned v0_ ∧ Kd.R k56 56 w' w.heap.size (fun _ => True) v0_ ([]) ∧ Below w.heap.size w w' := by
  have HR := Aside0.mk hr
  have HC := Aside0.mk hc
  have HR1 := Aside0.mk hr1
  have HC1 := Aside0.mk hc1
  have HR2 := Aside0.mk hr2
  have HC2 := Aside0.mk hc2
  have HP := Aside0.mk hp
  have HA := Aside0.mk ha
  clear hr hc hr1 hc1 hr2 hc2 hp ha
  have T0 := Aside0.mk t0
  have T1 := Aside0.mk t1
  have T2 := Aside0.mk t2
  have T3 := Aside0.mk t3
  have LO := Aside0.mk t0
  clear t0 t1 t2 t3
  go_enter Try.func80, Try.ntmps80
  go_upto_region 1 with ((with_reducible refine gate_dst (N := 5) rfl ?_); refine box_event ?hg (N := 5) ?hd (cs := #[.int .i64 n, .slice A l.length c]) (t := 30) ?hr ?_; (case hd => rfl); (case hg => rfl); (case hr => first | (go_simp; done) | (go_simp; rfl)); intro gl el wl kl bl; clear el; have KL := Aside0.mk kl; have BL := Aside0.mk bl; clear kl bl)
  have kl0 : wl.cell? ⟨gl, 0, none⟩ = some (.int .i64 n) := (blk_cell KL.out 0).trans rfl
  have kl1 : wl.cell? ⟨gl, 1, none⟩ = some (.slice A l.length c) := (blk_cell KL.out 1).trans rfl
  go_wp2_with (first | (go_at_call 23; refine (slay_at T0.out (Kd.C_below HR.out BL.out) HC.out).mono ?_; rintro e w1 ⟨rfl, hb⟩; have KL := Aside0.mk (blk_below KL.out hb); have BL := Aside0.mk (below_step BL.out hb); clear hb kl0 kl1; have kl0 : w1.cell? ⟨gl, 0, none⟩ = some (.int .i64 n) := (blk_cell KL.out 0).trans rfl; have kl1 : w1.cell? ⟨gl, 1, none⟩ = some (.slice A l.length c) := (blk_cell KL.out 1).trans rfl) | (go_at_call 123; refine (sposts_at T1.out LO.out HP.out (Kd.C_below HR.out BL.out) HC.out (Kd.C_below HR1.out BL.out) HC1.out).mono ?_; rintro e w2 ⟨rfl, hb⟩; have KL := Aside0.mk (blk_below KL.out hb); have BL := Aside0.mk (below_step BL.out hb); clear hb kl0 kl1; have kl0 : w2.cell? ⟨gl, 0, none⟩ = some (.int .i64 n) := (blk_cell KL.out 0).trans rfl; have kl1 : w2.cell? ⟨gl, 1, none⟩ = some (.slice A l.length c) := (blk_cell KL.out 1).trans rfl) | (go_at_call 124; refine (saxles_at T2.out HA.out (Kd.C_below HR2.out BL.out) HC2.out).mono ?_; rintro e w3 ⟨rfl, hb⟩; have KL := Aside0.mk (blk_below KL.out hb); have BL := Aside0.mk (below_step BL.out hb); clear hb kl0 kl1; have kl0 : w3.cell? ⟨gl, 0, none⟩ = some (.int .i64 n) := (blk_cell KL.out 0).trans rfl; have kl1 : w3.cell? ⟨gl, 1, none⟩ = some (.slice A l.length c) := (blk_cell KL.out 1).trans rfl) | (go_at_call 87; (with_reducible refine (sin_at T3.out).mono ?_); rintro e w4 ⟨rfl, hb⟩; have KL := Aside0.mk (blk_below KL.out hb); have BL := Aside0.mk (below_step BL.out hb); clear hb kl0 kl1; have kl0 : w4.cell? ⟨gl, 0, none⟩ = some (.int .i64 n) := (blk_cell KL.out 0).trans rfl; have kl1 : w4.cell? ⟨gl, 1, none⟩ = some (.slice A l.length c) := (blk_cell KL.out 1).trans rfl))
  go_ret
  exact ⟨_, rfl, Kd.R_nil _ _ _ _ _, BL.out⟩
set_option maxHeartbeats 16000000 in
set_option maxRecDepth 100000 in
theorem spass_no4 (n : Int) (A : Option Addr) (c : Nat) (l : List S88) (A1 : Option Addr) (c1 : Nat) (ps : List S143) (A2 : Option Addr) (c2 : Nat) (ax : List Int) (fr tt : Int) (w : World) (hr : Kd.C k88 w A l.length l) (hc : l.length ≤ c) (hr1 : Kd.C k143 w A1 ps.length ps) (hc1 : ps.length ≤ c1) (hr2 : Kd.C (Kd.int .i64) w A2 ax.length ax) (hc2 : ax.length ≤ c2) (hp : ps.length ≤ 1048576) (ha : ax.length ≤ 1048576) (t0 : layoutOk n l = 0) (t1 : (postsTo l ps ps.length && decide (ps.length ≤ 120)) = true) (t2 : (axlesTo ax ax.length && decide (ax.length ≤ 200)) = true) (t3 : (decide (0 ≤ fr) && decide (fr ≤ 1000000)) = true) (t4 : (decide (fr ≤ tt) && decide (tt ≤ 1000000)) = false) :
    Calls Try.prog 80 #[.agg #[.int .i64 n, .slice A l.length c], .slice A1 ps.length c1, .slice A2 ax.length c2, .int .i64 fr, .int .i64 tt] w fun e w' => ∃ v0_ : Value, e = .returned v0_ ∧ Kd.R k56 56 w' w.heap.size (fun _ => True) v0_ ([]) ∧ Below w.heap.size w w' := by
  have HR := Aside0.mk hr
  have HC := Aside0.mk hc
  have HR1 := Aside0.mk hr1
  have HC1 := Aside0.mk hc1
  have HR2 := Aside0.mk hr2
  have HC2 := Aside0.mk hc2
  have HP := Aside0.mk hp
  have HA := Aside0.mk ha
  clear hr hc hr1 hc1 hr2 hc2 hp ha
  have T0 := Aside0.mk t0
  have T1 := Aside0.mk t1
  have T2 := Aside0.mk t2
  have T3 := Aside0.mk t3
  have T4 := Aside0.mk t4
  have LO := Aside0.mk t0
  clear t0 t1 t2 t3 t4
  go_enter Try.func80, Try.ntmps80
  go_upto_region 1 with ((with_reducible refine gate_dst (N := 5) rfl ?_); refine box_event ?hg (N := 5) ?hd (cs := #[.int .i64 n, .slice A l.length c]) (t := 30) ?hr ?_; (case hd => rfl); (case hg => rfl); (case hr => first | (go_simp; done) | (go_simp; rfl)); intro gl el wl kl bl; clear el; have KL := Aside0.mk kl; have BL := Aside0.mk bl; clear kl bl)
  have kl0 : wl.cell? ⟨gl, 0, none⟩ = some (.int .i64 n) := (blk_cell KL.out 0).trans rfl
  have kl1 : wl.cell? ⟨gl, 1, none⟩ = some (.slice A l.length c) := (blk_cell KL.out 1).trans rfl
  go_wp2_with (first | (go_at_call 23; refine (slay_at T0.out (Kd.C_below HR.out BL.out) HC.out).mono ?_; rintro e w1 ⟨rfl, hb⟩; have KL := Aside0.mk (blk_below KL.out hb); have BL := Aside0.mk (below_step BL.out hb); clear hb kl0 kl1; have kl0 : w1.cell? ⟨gl, 0, none⟩ = some (.int .i64 n) := (blk_cell KL.out 0).trans rfl; have kl1 : w1.cell? ⟨gl, 1, none⟩ = some (.slice A l.length c) := (blk_cell KL.out 1).trans rfl) | (go_at_call 123; refine (sposts_at T1.out LO.out HP.out (Kd.C_below HR.out BL.out) HC.out (Kd.C_below HR1.out BL.out) HC1.out).mono ?_; rintro e w2 ⟨rfl, hb⟩; have KL := Aside0.mk (blk_below KL.out hb); have BL := Aside0.mk (below_step BL.out hb); clear hb kl0 kl1; have kl0 : w2.cell? ⟨gl, 0, none⟩ = some (.int .i64 n) := (blk_cell KL.out 0).trans rfl; have kl1 : w2.cell? ⟨gl, 1, none⟩ = some (.slice A l.length c) := (blk_cell KL.out 1).trans rfl) | (go_at_call 124; refine (saxles_at T2.out HA.out (Kd.C_below HR2.out BL.out) HC2.out).mono ?_; rintro e w3 ⟨rfl, hb⟩; have KL := Aside0.mk (blk_below KL.out hb); have BL := Aside0.mk (below_step BL.out hb); clear hb kl0 kl1; have kl0 : w3.cell? ⟨gl, 0, none⟩ = some (.int .i64 n) := (blk_cell KL.out 0).trans rfl; have kl1 : w3.cell? ⟨gl, 1, none⟩ = some (.slice A l.length c) := (blk_cell KL.out 1).trans rfl) | (go_at_call 87; (with_reducible refine (sin_at T3.out).mono ?_); rintro e w4 ⟨rfl, hb⟩; have KL := Aside0.mk (blk_below KL.out hb); have BL := Aside0.mk (below_step BL.out hb); clear hb kl0 kl1; have kl0 : w4.cell? ⟨gl, 0, none⟩ = some (.int .i64 n) := (blk_cell KL.out 0).trans rfl; have kl1 : w4.cell? ⟨gl, 1, none⟩ = some (.slice A l.length c) := (blk_cell KL.out 1).trans rfl) | (go_at_call 87; (with_reducible refine (sin_at T4.out).mono ?_); rintro e w5 ⟨rfl, hb⟩; have KL := Aside0.mk (blk_below KL.out hb); have BL := Aside0.mk (below_step BL.out hb); clear hb kl0 kl1; have kl0 : w5.cell? ⟨gl, 0, none⟩ = some (.int .i64 n) := (blk_cell KL.out 0).trans rfl; have kl1 : w5.cell? ⟨gl, 1, none⟩ = some (.slice A l.length c) := (blk_cell KL.out 1).trans rfl))
  go_ret
  exact ⟨_, rfl, Kd.R_nil _ _ _ _ _, BL.out⟩
set_option maxHeartbeats 16000000 in
set_option maxRecDepth 100000 in
theorem spass_yes (n : Int) (A : Option Addr) (c : Nat) (l : List S88) (A1 : Option Addr) (c1 : Nat) (ps : List S143) (A2 : Option Addr) (c2 : Nat) (ax : List Int) (fr tt : Int) (w : World) (hr : Kd.C k88 w A l.length l) (hc : l.length ≤ c) (hr1 : Kd.C k143 w A1 ps.length ps) (hc1 : ps.length ≤ c1) (hr2 : Kd.C (Kd.int .i64) w A2 ax.length ax) (hc2 : ax.length ≤ c2) (hp : ps.length ≤ 1048576) (ha : ax.length ≤ 1048576) (t0 : layoutOk n l = 0) (t1 : (postsTo l ps ps.length && decide (ps.length ≤ 120)) = true) (t2 : (axlesTo ax ax.length && decide (ax.length ≤ 200)) = true) (t3 : (decide (0 ≤ fr) && decide (fr ≤ 1000000)) = true) (t4 : (decide (fr ≤ tt) && decide (tt ≤ 1000000)) = true) :
    Calls Try.prog 80 #[.agg #[.int .i64 n, .slice A l.length c], .slice A1 ps.length c1, .slice A2 ax.length c2, .int .i64 fr, .int .i64 tt] w fun e w' => ∃ v0_ : Value, e = .returned v0_ ∧ Kd.R k56 56 w' w.heap.size (fun _ => True) v0_ (trainEvs ps ax fr tt) ∧ Below w.heap.size w w' := by
  have HR := Aside0.mk hr
  have HC := Aside0.mk hc
  have HR1 := Aside0.mk hr1
  have HC1 := Aside0.mk hc1
  have HR2 := Aside0.mk hr2
  have HC2 := Aside0.mk hc2
  have HP := Aside0.mk hp
  have HA := Aside0.mk ha
  clear hr hc hr1 hc1 hr2 hc2 hp ha
  have T0 := Aside0.mk t0
  have T1 := Aside0.mk t1
  have T2 := Aside0.mk t2
  have T3 := Aside0.mk t3
  have T4 := Aside0.mk t4
  have LO := Aside0.mk t0
  clear t0 t1 t2 t3 t4
  go_enter Try.func80, Try.ntmps80
  go_upto_region 1 with ((with_reducible refine gate_dst (N := 5) rfl ?_); refine box_event ?hg (N := 5) ?hd (cs := #[.int .i64 n, .slice A l.length c]) (t := 30) ?hr ?_; (case hd => rfl); (case hg => rfl); (case hr => first | (go_simp; done) | (go_simp; rfl)); intro gl el wl kl bl; clear el; have KL := Aside0.mk kl; have BL := Aside0.mk bl; clear kl bl)
  have kl0 : wl.cell? ⟨gl, 0, none⟩ = some (.int .i64 n) := (blk_cell KL.out 0).trans rfl
  have kl1 : wl.cell? ⟨gl, 1, none⟩ = some (.slice A l.length c) := (blk_cell KL.out 1).trans rfl
  have hpt := T1.out
  have hat := T2.out
  rw [Bool.and_eq_true, decide_eq_true_eq] at hpt hat
  have HPT := Aside0.mk hpt
  have HAT := Aside0.mk hat
  clear hpt hat
  have HIX := Aside0.mk (metTo_ix ps ax fr tt ax.length)
  have HML := Aside0.mk (show (mets ps ax fr tt).length ≤ 24000 from Nat.le_trans (metTo_len ps ax fr tt ax.length) (Nat.le_trans (Nat.mul_le_mul HAT.out.2 HPT.out.2) (by omega)))
  go_upto_region 3 with (first | (go_at_call 23; refine (slay_at T0.out (Kd.C_below HR.out BL.out) HC.out).mono ?_; rintro e w1 ⟨rfl, hb⟩; have KL := Aside0.mk (blk_below KL.out hb); have BL := Aside0.mk (below_step BL.out hb); clear hb kl0 kl1; have kl0 : w1.cell? ⟨gl, 0, none⟩ = some (.int .i64 n) := (blk_cell KL.out 0).trans rfl; have kl1 : w1.cell? ⟨gl, 1, none⟩ = some (.slice A l.length c) := (blk_cell KL.out 1).trans rfl) | (go_at_call 123; refine (sposts_at T1.out LO.out HP.out (Kd.C_below HR.out BL.out) HC.out (Kd.C_below HR1.out BL.out) HC1.out).mono ?_; rintro e w2 ⟨rfl, hb⟩; have KL := Aside0.mk (blk_below KL.out hb); have BL := Aside0.mk (below_step BL.out hb); clear hb kl0 kl1; have kl0 : w2.cell? ⟨gl, 0, none⟩ = some (.int .i64 n) := (blk_cell KL.out 0).trans rfl; have kl1 : w2.cell? ⟨gl, 1, none⟩ = some (.slice A l.length c) := (blk_cell KL.out 1).trans rfl) | (go_at_call 124; refine (saxles_at T2.out HA.out (Kd.C_below HR2.out BL.out) HC2.out).mono ?_; rintro e w3 ⟨rfl, hb⟩; have KL := Aside0.mk (blk_below KL.out hb); have BL := Aside0.mk (below_step BL.out hb); clear hb kl0 kl1; have kl0 : w3.cell? ⟨gl, 0, none⟩ = some (.int .i64 n) := (blk_cell KL.out 0).trans rfl; have kl1 : w3.cell? ⟨gl, 1, none⟩ = some (.slice A l.length c) := (blk_cell KL.out 1).trans rfl) | (go_at_call 87; (with_reducible refine (sin_at T3.out).mono ?_); rintro e w4 ⟨rfl, hb⟩; have KL := Aside0.mk (blk_below KL.out hb); have BL := Aside0.mk (below_step BL.out hb); clear hb kl0 kl1; have kl0 : w4.cell? ⟨gl, 0, none⟩ = some (.int .i64 n) := (blk_cell KL.out 0).trans rfl; have kl1 : w4.cell? ⟨gl, 1, none⟩ = some (.slice A l.length c) := (blk_cell KL.out 1).trans rfl) | (go_at_call 87; (with_reducible refine (sin_at T4.out).mono ?_); rintro e w5 ⟨rfl, hb⟩; have KL := Aside0.mk (blk_below KL.out hb); have BL := Aside0.mk (below_step BL.out hb); clear hb kl0 kl1; have kl0 : w5.cell? ⟨gl, 0, none⟩ = some (.int .i64 n) := (blk_cell KL.out 0).trans rfl; have kl1 : w5.cell? ⟨gl, 1, none⟩ = some (.slice A l.length c) := (blk_cell KL.out 1).trans rfl))
  clear kl0 kl1 KL T0 T1 T2 T3 T4
  have HR1 := Aside0.mk (Kd.C_below HR1.out BL.out)
  have HR2 := Aside0.mk (Kd.C_below HR2.out BL.out)
  go_upto_region 5 with fail
  go_loopg [11, 51] ax.length (fun kq v11 v51 w' => ∃ i : Nat, v51 = .int .i64 i ∧ Aside0 (i + kq = ax.length) ∧ Aside0 (Kd.R k154 154 w' w5.heap.size (fun _ => True) v11 (metTo ps ax fr tt i)) ∧ Aside0 (Below w5.heap.size w5 w'))
  case atStart => exact ⟨0, rfl, ⟨by omega⟩, ⟨Kd.R_nil _ _ _ _ _⟩, ⟨Below.refl _ _⟩⟩
  case round =>
    obtain ⟨i, rfl, HI, HO, HB⟩ := hrel
    by_cases hlt : i < ax.length
    · cases gk with
      | zero => exact absurd HI.out (by omega)
      | succ go1 =>
      have hlt' : decide ((i : Int) < (ax.length : Int)) = true := decide_eq_true (by omega)
      have q0 : (0 : Int) ≤ (i : Int) := by omega
      have q1 : (i : Int) < (ax.length : Int) := by omega
      have I200 := Aside0.mk (show i < 200 by have := HAT.out.2; omega)
      obtain ⟨ada, e, -⟩ := HR2.out.2.2 (by omega)
      subst e
      have yv := Kd.foot_int HR2.out (i : Int) q0 q1
      rw [Int.toNat_natCast] at yv
      have AI := Aside0.mk (axle_in HAT.out.1 i hlt)
      have GS := Aside0.mk (show metTo ps ax fr tt (i + 1) = metTo ps ax fr tt i ++ rowTo ps (rd ax (i : Int)) (i : Int) fr tt ps.length from rfl)
      have LT := Aside0.mk (show (metTo ps ax fr tt i).length ≤ 24000 from Nat.le_trans (metTo_len ps ax fr tt i) (Nat.le_trans (Nat.mul_le_mul (Nat.le_of_lt I200.out) HPT.out.2) (by omega)))
      generalize rd ax (i : Int) = ai at yv AI GS
      replace yv := pw_cell_below HB.out yv
      go_upto_region 8 with fail
      clear yv
      go_loopg [11, 58] ps.length (fun kq v11 v58 w' => ∃ k : Nat, v58 = .int .i64 k ∧ Aside0 (k + kq = ps.length) ∧ Aside0 (Kd.R k154 154 w' w5.heap.size (fun _ => True) v11 (metTo ps ax fr tt i ++ rowTo ps ai (i : Int) fr tt k)) ∧ Aside0 (Below w5.heap.size w5 w'))
      case atStart => exact ⟨0, rfl, ⟨by omega⟩, ⟨by rw [rowTo, List.append_nil]; exact HO.out⟩, HB⟩
      case round =>
        clear HO HB
        obtain ⟨k, rfl, HK, HO, HB⟩ := hrel
        by_cases hkt : k < ps.length
        · cases gk with
          | zero => exact absurd HK.out (by omega)
          | succ go2 =>
          have hkt' : decide ((k : Int) < (ps.length : Int)) = true := decide_eq_true (by omega)
          have r0 : (0 : Int) ≤ (k : Int) := by omega
          have r1 : (k : Int) < (ps.length : Int) := by omega
          obtain ⟨adp, e, x0, x1, x2⟩ := at_T143 HR1.out (k : Int) r0 r1
          cases e
          rw [Int.toNat_natCast] at x0 x1 x2
          have pin := post_in HPT.out.1 k hkt
          have RS := Aside0.mk (show rowTo ps ai (i : Int) fr tt (k + 1) = rowTo ps ai (i : Int) fr tt k ++ metAt ps ai (i : Int) fr tt k from rfl)
          have MA := Aside0.mk (show metAt ps ai (i : Int) fr tt k = if fr < (rd_T143 ps (k : Int)).f0 + ai ∧ (rd_T143 ps (k : Int)).f0 + ai ≤ tt then [⟨(rd_T143 ps (k : Int)).f0 + ai, (i : Int), (k : Int)⟩] else [] from rfl)
          have HL := Aside0.mk (show (metTo ps ax fr tt i ++ rowTo ps ai (i : Int) fr tt k).length ≤ 30000 by rw [List.length_append]; have := rowTo_len ps ai (i : Int) fr tt k; have := LT.out; have := HPT.out.2; omega)
          generalize rd_T143 ps (k : Int) = x at x0 x1 x2 pin MA
          replace x0 := pw_cell_below HB.out x0
          replace x1 := pw_cell_below HB.out x1
          replace x2 := pw_cell_below HB.out x2
          have hs1 : wrap64 (x.f0 + ai) = x.f0 + ai := wrap_id (by have := AI.out; omega) (by have := AI.out; omega)
          obtain ⟨s, hs⟩ : ∃ s, s = x.f0 + ai := ⟨_, rfl⟩
          rw [← hs] at hs1 MA
          rw [hs] at hs1
          have hs2 : IntKind.i64.wrap (x.f0 + ai) = s := (i64_w _).trans (hs1.trans hs.symm)
          replace hs1 := hs1.trans hs.symm
          clear hs pin
          go_upto_region 10 with ((with_reducible refine gate_dst (N := 15) rfl ?_); refine box_event ?hg (N := 15) ?hd (cs := #[.int .i64 0, .int .i64 0, .int .i64 0]) (t := 143) ?hr ?_; (case hd => rfl); (case hg => rfl); (case hr => first | (go_simp; done) | (go_simp; rfl)); intro gx ex wx kx bx; have EX := Aside0.mk ex; have KX := Aside0.mk kx; have BX := Aside0.mk bx; clear ex kx bx; have kx0 : wx.cell? ⟨gx, 0, none⟩ = some (.int .i64 0) := (blk_cell KX.out 0).trans rfl; have zkx0 := blk_frozen KX.out 0; have kx1 : wx.cell? ⟨gx, 1, none⟩ = some (.int .i64 0) := (blk_cell KX.out 1).trans rfl; have zkx1 := blk_frozen KX.out 1; have kx2 : wx.cell? ⟨gx, 2, none⟩ = some (.int .i64 0) := (blk_cell KX.out 2).trans rfl; have zkx2 := blk_frozen KX.out 2)
          have FX := Aside0.mk (fill3t (y0 := .int .i64 x.f0) (y1 := .int .i64 x.f1) (y2 := .int .i64 x.f2) KX.out BX.out (Nat.le_of_eq EX.out.symm))
          clear kx0 zkx0 kx1 zkx1 kx2 zkx2 KX BX EX x0 x1 x2
          generalize (((wx.setCell ⟨gx, 0, none⟩ (.int .i64 x.f0)).setCell ⟨gx, 1, none⟩ (.int .i64 x.f1)).setCell ⟨gx, 2, none⟩ (.int .i64 x.f2)) = w6 at FX ⊢
          have kx0 : w6.cell? ⟨gx, 0, none⟩ = some (.int .i64 x.f0) := (blk_cell FX.out.2 0).trans rfl
          have HO := Aside0.mk (Kd.R_below HO.out FX.out.1)
          have HB := Aside0.mk (below_step HB.out FX.out.1)
          clear FX
          have W2 := Aside0.mk (show wrap64 ((k : Int) + 1) = ((k + 1 : Nat) : Int) from (wrap_id (by omega) (by have := HPT.out.2; omega)).trans (by omega))
          by_cases hf : fr < s
          · have hf' : decide (fr < s) = true := decide_eq_true hf
            by_cases ht : s ≤ tt
            · have ht' : decide (s ≤ tt) = true := decide_eq_true ht
              have H1 := Aside0.mk (MA.out.trans (if_pos ⟨hf, ht⟩))
              go_wp2_with (at_builtin; refine Kd.R_append k154 (w0 := w5) w5.heap.size rfl (.tmp 77) (.tmp 85) 152 154 (.agg #[.int .i64 0, .int .i64 0, .int .i64 0]) 24 rfl Try.underlying152 info154 rfl (by decide) (by decide) u11 (metTo ps ax fr tt i ++ rowTo ps ai (i : Int) fr tt k) ⟨s, (i : Int), (k : Int)⟩ [.int .i64 s, .int .i64 (i : Int), .int .i64 (k : Int)] (fun _ => True) (fun _ => False) rfl rfl (k154_mkM _ _ _ ⟨s, (i : Int), (k : Int)⟩) (fun k hk => hk.elim) (fun _ _ => trivial) HO.out HB.out HB.out.size (by have := HL.out; omega) ?_; intro vn wn hsn hbn hgn _; have HN := Aside0.mk hsn; have HBN := Aside0.mk hbn; clear hsn hbn hgn)
              go_roundg go2
              case measure => omega
              case rel => exact ⟨k + 1, congrArg (Value.int .i64) W2.out, ⟨by have := HK.out; omega⟩, ⟨by rw [RS.out, H1.out, ← List.append_assoc]; exact HN.out⟩, HBN⟩
            · have ht' : decide (s ≤ tt) = false := decide_eq_false ht
              have H1 := Aside0.mk (MA.out.trans (if_neg (fun q => ht q.2)))
              go_wp2_with fail
              go_roundg go2
              case measure => omega
              case rel => exact ⟨k + 1, congrArg (Value.int .i64) W2.out, ⟨by have := HK.out; omega⟩, ⟨by rw [RS.out, H1.out, List.append_nil]; exact HO.out⟩, HB⟩
          · have hf' : decide (fr < s) = false := decide_eq_false hf
            have H1 := Aside0.mk (MA.out.trans (if_neg (fun q => hf q.1)))
            go_wp2_with fail
            go_roundg go2
            case measure => omega
            case rel => exact ⟨k + 1, congrArg (Value.int .i64) W2.out, ⟨by have := HK.out; omega⟩, ⟨by rw [RS.out, H1.out, List.append_nil]; exact HO.out⟩, HB⟩
        · have hkt' : decide ((k : Int) < (ps.length : Int)) = false := decide_eq_false (by omega)
          have HKE := Aside0.mk (show k = ps.length by have := HK.out; omega)
          have W1 := Aside0.mk (show wrap64 ((i : Int) + 1) = ((i + 1 : Nat) : Int) from (wrap_id (by omega) (by have := I200.out; omega)).trans (by omega))
          go_wp2_with fail
          go_roundg go1
          case measure => omega
          case rel => exact ⟨i + 1, congrArg (Value.int .i64) W1.out, ⟨by have := HI.out; omega⟩, ⟨by rw [GS.out, ← HKE.out]; exact HO.out⟩, HB⟩
    · have hlt' : decide ((i : Int) < (ax.length : Int)) = false := decide_eq_false (by omega)
      have hi : i = ax.length := by have := HI.out; omega
      rw [hi] at HO
      clear hi
      have HO : Aside0 (Kd.R k154 154 wr w5.heap.size (fun _ => True) u11 (mets ps ax fr tt)) := HO
      obtain ⟨xs, hxs⟩ : ∃ xs, xs = mets ps ax fr tt := ⟨_, rfl⟩
      have HIX : Aside0 ((mets ps ax fr tt).Pairwise ixLt) := HIX
      have HXM := Aside0.mk (fun x (h : x ∈ xs) => mem_mets.1 (hxs ▸ h))
      have HXE := Aside0.mk hxs
      rw [← hxs] at HO HIX HML
      clear hxs
      obtain ⟨Am, cm, rfl⟩ := Kd.R_slice HO.out
      go_upto_region 15 with fail
      go_loopg [16] xs.length (fun kq v16 w' => ∃ i : Nat, v16 = .int .i64 i ∧ Aside0 (i + kq = xs.length + 1 ∧ 1 ≤ i) ∧ Aside0 (Kd.R k154 154 w' w5.heap.size (fun _ => True) (.slice Am xs.length cm) (sortAt xs i)) ∧ Aside0 (Below w5.heap.size w5 w'))
      case atStart => exact ⟨1, rfl, ⟨by omega, by omega⟩, ⟨by rw [sortAt_one]; exact HO.out⟩, HB⟩
      case round =>
        clear HO HB
        obtain ⟨i, rfl, HI, HO, HB⟩ := hrel
        by_cases hit : i < xs.length
        · cases gk with
          | zero => exact absurd HI.out (by omega)
          | succ go1 =>
          have hit' : decide ((i : Int) < (xs.length : Int)) = true := decide_eq_true (by omega)
          obtain ⟨g, cg, e, -⟩ := Kd.R_form HO.out (by rw [sortAt_length]; omega)
          rw [sortAt_length] at e
          cases e
          have SUC := Aside0.mk (fun k hk h1 h2 => sortAt_succ xs (k := k) HIX.out hit hk h1 h2)
          have IXA := Aside0.mk (sort_ix HIX.out hit)
          have ALN := Aside0.mk (show (sortM (xs.take i)).length = i by rw [sortM_len]; simp; omega)
          have LEN := Aside0.mk (fun k (hk : k ≤ i) => (insAt_length (acc := sortM (xs.take i)) (y := xs[i]) (k := k) (rest := xs.drop (i + 1)) (by rw [ALN.out]; exact hk)).trans (show _ = xs.length by rw [ALN.out, List.length_drop]; omega))
          have HO : Aside0 (Kd.R k154 154 wr w5.heap.size (fun _ => True) (.slice (some ⟨g, 0, none⟩) xs.length cm) (insAt (sortM (xs.take i)) xs[i] i (xs.drop (i + 1)))) := ⟨by rw [← sortAt_ins xs hit]; exact HO.out⟩
          generalize sortM (xs.take i) = acc at SUC IXA ALN LEN HO
          generalize xs[i] = y at SUC IXA LEN HO
          generalize xs.drop (i + 1) = rest at SUC LEN HO
          have W1 := Aside0.mk (show wrap64 ((i : Int) + 1) = ((i + 1 : Nat) : Int) from (wrap_id (by omega) (by have := HML.out; omega)).trans (by omega))
          have HIT := Aside0.mk hit
          go_wp2_with fail
          go_loopg [17] i (fun kq v17 w' => ∃ k : Nat, v17 = .int .i64 k ∧ Aside0 (k = kq ∧ k ≤ i) ∧ Aside0 (∀ x ∈ acc.drop k, lexLt y x = true) ∧ Aside0 (Kd.R k154 154 w' w5.heap.size (fun _ => True) (.slice (some ⟨g, 0, none⟩) xs.length cm) (insAt acc y k rest)) ∧ Aside0 (Below w5.heap.size w5 w'))
          case atStart => exact ⟨i, rfl, ⟨rfl, Nat.le_refl _⟩, ⟨fun x hx => by rw [List.drop_eq_nil_of_le (Nat.le_of_eq ALN.out)] at hx; cases hx⟩, HO, HB⟩
          case round =>
            clear HO HB
            obtain ⟨k, rfl, HK, HD, HO, HB⟩ := hrel
            have HO := Aside0.mk (Kd.R_below HO.out (below_drew1 (Below.refl wr.heap.size wr)))
            have HB := Aside0.mk (below_drew1 HB.out)
            by_cases hk0 : k = 0
            · have hg : decide ((k : Int) > 0) = false := decide_eq_false (by omega)
              have hg' : decide (0 < (k : Int)) = false := decide_eq_false (by omega)
              have HE := Aside0.mk (SUC.out k HK.out.2 HD.out (.inl hk0))
              rw [HE.out] at HO
              have hkn : ¬ 0 < k := by omega
              clear hk0
              go_upto_region 18 with fail
              refine startK 14 (S := fun _ => True) (ds := []) (by kernel_rfl) rfl trivial (fun hHeld => ?_)
              refine with_tabW sp_tab18 sp_bits18 (fun HT_ HW_ => ?_)
              repeat (first
                | (refine take0 (v := ?_) (a' := ?_) (by simp only [Nat.reduceAdd]; rfl) (by rfl) HT_.out HW_.out (by kernel_rfl) (by exact fun _ _ _ h => h) hHeld ?_ ?_ ?_; rotate_left 2; (· intro w' _; go_simp; with_reducible rfl); (· simp only [Act.put, List.setIfInBounds_toArray, List.set_cons_zero, List.set_cons_succ, i64_w, i32_w]; rfl))
                | (refine takeG (v := ?_) (a' := ?_) (by simp only [Nat.reduceAdd]; rfl) (by rfl) (by rfl) HT_.out HW_.out (by kernel_rfl) (by exact fun _ _ _ h => h) hHeld ?_ ?_ ?_; rotate_left 2; (· first | (rw [if_neg (by decide)]; done) | (rw [if_pos (by decide)]; intro w' _; go_simp; with_reducible rfl)); (· simp only [Act.put, List.setIfInBounds_toArray, List.set_cons_zero, List.set_cons_succ, i64_w, i32_w]; rfl)))
              refine done_ (done_of HT_.out (by kernel_rfl)) ?_
              go_wp2_with fail
              go_roundg go1
              case measure => omega
              case rel => exact ⟨i + 1, congrArg (Value.int .i64) W1.out, ⟨by have := HI.out; omega, by omega⟩, HO, HB⟩
            · obtain ⟨j, hj⟩ : ∃ j, k = j + 1 := ⟨k - 1, by omega⟩
              have hg : decide ((k : Int) > 0) = true := decide_eq_true (by omega)
              have hg' : decide (0 < (k : Int)) = true := decide_eq_true (by omega)
              have hw : wrap64 ((k : Int) - 1) = (j : Int) := (wrap_id (by omega) (by have := HK.out; have := HML.out; have := HIT.out; omega)).trans (by omega)
              have hw' : IntKind.i64.wrap ((k : Int) - 1) = (j : Int) := (i64_w _).trans hw
              have hkl : k < xs.length := by have := HK.out; have := HIT.out; omega
              have hjl : j < xs.length := by omega
              have dk0 : (0 : Int) ≤ (k : Int) := by omega
              have dj0 : (0 : Int) ≤ (j : Int) := by omega
              have dk : decide ((k : Int) < (xs.length : Int)) = true := decide_eq_true (by omega)
              have dj : decide ((j : Int) < (xs.length : Int)) = true := decide_eq_true (by omega)
              have hja : j < acc.length := by have := HK.out; rw [ALN.out]; omega
              obtain ⟨z, hz⟩ : ∃ z, z = rd_T154 acc (j : Int) := ⟨_, rfl⟩
              have hzm : z ∈ acc := by rw [hz, show rd_T154 acc (j : Int) = acc[j] by simp [rd_T154, hja]]; exact List.getElem_mem hja
              have HZ := Aside0.mk (befM_lex (IXA.out z hzm))
              have RD := Aside0.mk (fun (w' : World) (h : Kd.R k154 154 w' w5.heap.size (fun _ => True) (.slice (some ⟨g, 0, none⟩) xs.length cm) (insAt acc y k rest)) => (show (w'.cell? ⟨g, k * 3, none⟩ = some (.int .i64 y.f0) ∧ w'.cell? ⟨g, k * 3 + 1, none⟩ = some (.int .i64 y.f1) ∧ w'.cell? ⟨g, k * 3 + 2, none⟩ = some (.int .i64 y.f2) ∧ ∀ m, w'.frozen? ⟨g, k * 3 + m, none⟩ = false) ∧ (w'.cell? ⟨g, j * 3, none⟩ = some (.int .i64 z.f0) ∧ w'.cell? ⟨g, j * 3 + 1, none⟩ = some (.int .i64 z.f1) ∧ w'.cell? ⟨g, j * 3 + 2, none⟩ = some (.int .i64 z.f2) ∧ ∀ m, w'.frozen? ⟨g, j * 3 + m, none⟩ = false) from by
                have mk := met_at h k hkl
                have mj := met_at h j hjl
                rw [insAt_rd (by rw [ALN.out]; exact HK.out.2)] at mk
                rw [show rd_T154 (insAt acc y k rest) (j : Int) = z by rw [hz, hj]; exact insAt_pred hja] at mj
                exact ⟨mk, mj⟩))
              have HJ := Aside0.mk hj
              have HZE := Aside0.mk hz
              have HJA := Aside0.mk hja
              have HKL := Aside0.mk hkl
              have HJL := Aside0.mk hjl
              have hkp : 0 < k := by omega
              clear hj hz hja hzm hk0
              obtain ⟨⟨a0, a1, a2, -⟩, b0, b1, b2, -⟩ := RD.out _ HO.out
              go_upto_region 18 with fail
              cases hbf : befM y z
              · skip
                refine startK 14 (S := fun w' => w'.cell? ⟨g, k * 3, none⟩ = some (.int .i64 y.f0) ∧ w'.cell? ⟨g, k * 3 + 1, none⟩ = some (.int .i64 y.f1) ∧ w'.cell? ⟨g, k * 3 + 2, none⟩ = some (.int .i64 y.f2) ∧ w'.cell? ⟨g, j * 3, none⟩ = some (.int .i64 z.f0) ∧ w'.cell? ⟨g, j * 3 + 1, none⟩ = some (.int .i64 z.f1) ∧ w'.cell? ⟨g, j * 3 + 2, none⟩ = some (.int .i64 z.f2)) (ds := []) (by kernel_rfl) rfl ⟨a0, a1, a2, b0, b1, b2⟩ (fun hHeld => ?_)
                refine with_tabW sp_tab18 sp_bits18 (fun HT_ HW_ => ?_)
                repeat (first
                  | (refine take0 (v := ?_) (a' := ?_) (by simp only [Nat.reduceAdd]; rfl) (by rfl) HT_.out HW_.out (by kernel_rfl) (by exact fun _ _ _ h => h) hHeld ?_ ?_ ?_; rotate_left 2; (· rintro w' ⟨s0, s1, s2, s3, s4, s5⟩; go_simp; with_reducible rfl); (· simp only [Act.put, List.setIfInBounds_toArray, List.set_cons_zero, List.set_cons_succ, i64_w, i32_w]; rfl))
                  | (refine takeG (v := ?_) (a' := ?_) (by simp only [Nat.reduceAdd]; rfl) (by rfl) (by rfl) HT_.out HW_.out (by kernel_rfl) (by exact fun _ _ _ h => h) hHeld ?_ ?_ ?_; rotate_left 2; (· first | (rw [if_neg (by decide)]; done) | (rw [if_pos (by decide)]; rintro w' ⟨s0, s1, s2, s3, s4, s5⟩; go_simp; with_reducible rfl)); (· simp only [Act.put, List.setIfInBounds_toArray, List.set_cons_zero, List.set_cons_succ, i64_w, i32_w]; rfl))
                  | (refine oneK (by simp only [Nat.reduceAdd]; rfl) (by rfl) HT_.out (by kernel_rfl) (by decide) (fun K hK => ?_); refine goes_ Try.func125 (by kernel_rfl) rfl #[.agg #[.int .i64 y.f0, .int .i64 y.f1, .int .i64 y.f2], .agg #[.int .i64 z.f0, .int .i64 z.f1, .int .i64 z.f2]] (by rfl) rfl rfl (by (try simp only [List.map_toArray, List.map_cons, List.map_nil]); first | done | rfl | (simp only [List.length_drop, List.length_take]; rfl)) ?_; ((with_reducible refine (sbef_at hbf).mono ?_); rintro e w' ⟨rfl, hb⟩); refine ⟨_, rfl, ?_⟩; have HO := Aside0.mk (Kd.R_below HO.out hb); have HB := Aside0.mk (below_step HB.out hb); refine hK.out _ _ ⟨pw_cell_below hb hHeld.1, pw_cell_below hb hHeld.2.1, pw_cell_below hb hHeld.2.2.1, pw_cell_below hb hHeld.2.2.2.1, pw_cell_below hb hHeld.2.2.2.2.1, pw_cell_below hb hHeld.2.2.2.2.2⟩ (fun hHeld => ?_); clear hK K; refine norm_ (a' := ?_) ?_ ?_; rotate_left; · simp only [Act.put, List.setIfInBounds_toArray, List.set_cons_zero, List.set_cons_succ, i64_w, i32_w]; rfl))
                refine done_ (done_of HT_.out (by kernel_rfl)) ?_
                have HE := Aside0.mk (SUC.out k HK.out.2 HD.out (.inr (by rw [show (k : Int) - 1 = (j : Int) by have := HJ.out; omega, ← HZE.out, ← HZ.out]; exact hbf)))
                rw [HE.out] at HO
                clear a0 a1 a2 b0 b1 b2 hHeld
                go_wp2_with fail
                go_roundg go1
                case measure => omega
                case rel => exact ⟨i + 1, congrArg (Value.int .i64) W1.out, ⟨by have := HI.out; omega, by omega⟩, HO, HB⟩
              · skip
                refine startK 14 (S := fun w' => w'.cell? ⟨g, k * 3, none⟩ = some (.int .i64 y.f0) ∧ w'.cell? ⟨g, k * 3 + 1, none⟩ = some (.int .i64 y.f1) ∧ w'.cell? ⟨g, k * 3 + 2, none⟩ = some (.int .i64 y.f2) ∧ w'.cell? ⟨g, j * 3, none⟩ = some (.int .i64 z.f0) ∧ w'.cell? ⟨g, j * 3 + 1, none⟩ = some (.int .i64 z.f1) ∧ w'.cell? ⟨g, j * 3 + 2, none⟩ = some (.int .i64 z.f2)) (ds := []) (by kernel_rfl) rfl ⟨a0, a1, a2, b0, b1, b2⟩ (fun hHeld => ?_)
                refine with_tabW sp_tab18 sp_bits18 (fun HT_ HW_ => ?_)
                repeat (first
                  | (refine take0 (v := ?_) (a' := ?_) (by simp only [Nat.reduceAdd]; rfl) (by rfl) HT_.out HW_.out (by kernel_rfl) (by exact fun _ _ _ h => h) hHeld ?_ ?_ ?_; rotate_left 2; (· rintro w' ⟨s0, s1, s2, s3, s4, s5⟩; go_simp; with_reducible rfl); (· simp only [Act.put, List.setIfInBounds_toArray, List.set_cons_zero, List.set_cons_succ, i64_w, i32_w]; rfl))
                  | (refine takeG (v := ?_) (a' := ?_) (by simp only [Nat.reduceAdd]; rfl) (by rfl) (by rfl) HT_.out HW_.out (by kernel_rfl) (by exact fun _ _ _ h => h) hHeld ?_ ?_ ?_; rotate_left 2; (· first | (rw [if_neg (by decide)]; done) | (rw [if_pos (by decide)]; rintro w' ⟨s0, s1, s2, s3, s4, s5⟩; go_simp; with_reducible rfl)); (· simp only [Act.put, List.setIfInBounds_toArray, List.set_cons_zero, List.set_cons_succ, i64_w, i32_w]; rfl))
                  | (refine oneK (by simp only [Nat.reduceAdd]; rfl) (by rfl) HT_.out (by kernel_rfl) (by decide) (fun K hK => ?_); refine goes_ Try.func125 (by kernel_rfl) rfl #[.agg #[.int .i64 y.f0, .int .i64 y.f1, .int .i64 y.f2], .agg #[.int .i64 z.f0, .int .i64 z.f1, .int .i64 z.f2]] (by rfl) rfl rfl (by (try simp only [List.map_toArray, List.map_cons, List.map_nil]); first | done | rfl | (simp only [List.length_drop, List.length_take]; rfl)) ?_; ((with_reducible refine (sbef_at hbf).mono ?_); rintro e w' ⟨rfl, hb⟩); refine ⟨_, rfl, ?_⟩; have HO := Aside0.mk (Kd.R_below HO.out hb); have HB := Aside0.mk (below_step HB.out hb); refine hK.out _ _ ⟨pw_cell_below hb hHeld.1, pw_cell_below hb hHeld.2.1, pw_cell_below hb hHeld.2.2.1, pw_cell_below hb hHeld.2.2.2.1, pw_cell_below hb hHeld.2.2.2.2.1, pw_cell_below hb hHeld.2.2.2.2.2⟩ (fun hHeld => ?_); clear hK K; refine norm_ (a' := ?_) ?_ ?_; rotate_left; · simp only [Act.put, List.setIfInBounds_toArray, List.set_cons_zero, List.set_cons_succ, i64_w, i32_w]; rfl))
                refine done_ (done_of HT_.out (by kernel_rfl)) ?_
                have HDJ := Aside0.mk (show ∀ x ∈ acc.drop j, lexLt y x = true from by
                  intro x hx
                  rw [List.drop_eq_getElem_cons HJA.out, List.mem_cons] at hx
                  rcases hx with rfl | hx
                  · have h := HJA.out; have e : z = acc[j] := by rw [HZE.out]; simp [rd_T154, h]
                    rw [← e, ← HZ.out]; exact hbf
                  · exact HD.out x (by rw [HJ.out]; exact hx))
                clear hHeld a0 a1 a2 b0 b1 b2
                rename_i wv hwv_ _
                obtain ⟨⟨a0, a1, a2, -⟩, b0, b1, b2, -⟩ := RD.out _ HO.out
                go_upto_region 21 with ((with_reducible refine gate_dst (N := 18) rfl ?_); refine box_event ?hg (N := 18) ?hd (cs := #[.int .i64 0, .int .i64 0, .int .i64 0]) (t := 154) ?hr ?_; (case hd => rfl); (case hg => rfl); (case hr => first | (go_simp; done) | (go_simp; rfl)); intro gx ex wx kx bx; have EX := Aside0.mk ex; have KX := Aside0.mk kx; have BX := Aside0.mk bx; clear ex kx bx; have kx0 : wx.cell? ⟨gx, 0, none⟩ = some (.int .i64 0) := (blk_cell KX.out 0).trans rfl; have zkx0 := blk_frozen KX.out 0; have kx1 : wx.cell? ⟨gx, 1, none⟩ = some (.int .i64 0) := (blk_cell KX.out 1).trans rfl; have zkx1 := blk_frozen KX.out 1; have kx2 : wx.cell? ⟨gx, 2, none⟩ = some (.int .i64 0) := (blk_cell KX.out 2).trans rfl; have zkx2 := blk_frozen KX.out 2)
                have FX := Aside0.mk (fill3t (y0 := .int .i64 y.f0) (y1 := .int .i64 y.f1) (y2 := .int .i64 y.f2) KX.out BX.out (Nat.le_of_eq EX.out.symm))
                have NX := Aside0.mk (show g < gx by rw [EX.out]; exact Kd.R_lt HO.out _ rfl)
                clear kx0 zkx0 kx1 zkx1 kx2 zkx2 KX BX EX a0 a1 a2 b0 b1 b2
                generalize (((wx.setCell ⟨gx, 0, none⟩ (.int .i64 y.f0)).setCell ⟨gx, 1, none⟩ (.int .i64 y.f1)).setCell ⟨gx, 2, none⟩ (.int .i64 y.f2)) = w7 at FX ⊢
                have HO := Aside0.mk (Kd.R_below HO.out FX.out.1)
                have HB := Aside0.mk (below_step HB.out FX.out.1)
                have KX := Aside0.mk FX.out.2
                clear FX
                obtain ⟨⟨a0, a1, a2, -⟩, b0, b1, b2, -⟩ := RD.out _ HO.out
                go_upto_region 22 with ((with_reducible refine gate_dst (N := 19) rfl ?_); refine box_event ?hg (N := 19) ?hd (cs := #[.int .i64 0, .int .i64 0, .int .i64 0]) (t := 154) ?hr ?_; (case hd => rfl); (case hg => rfl); (case hr => first | (go_simp; done) | (go_simp; rfl)); intro gu eu wu ku bu; have EU := Aside0.mk eu; have KU := Aside0.mk ku; have BU := Aside0.mk bu; clear eu ku bu; have ku0 : wu.cell? ⟨gu, 0, none⟩ = some (.int .i64 0) := (blk_cell KU.out 0).trans rfl; have zku0 := blk_frozen KU.out 0; have ku1 : wu.cell? ⟨gu, 1, none⟩ = some (.int .i64 0) := (blk_cell KU.out 1).trans rfl; have zku1 := blk_frozen KU.out 1; have ku2 : wu.cell? ⟨gu, 2, none⟩ = some (.int .i64 0) := (blk_cell KU.out 2).trans rfl; have zku2 := blk_frozen KU.out 2)
                have FX := Aside0.mk (fill3t (y0 := .int .i64 z.f0) (y1 := .int .i64 z.f1) (y2 := .int .i64 z.f2) KU.out BU.out (Nat.le_of_eq EU.out.symm))
                clear ku0 zku0 ku1 zku1 ku2 zku2 KU BU EU a0 a1 a2 b0 b1 b2
                generalize (((wu.setCell ⟨gu, 0, none⟩ (.int .i64 z.f0)).setCell ⟨gu, 1, none⟩ (.int .i64 z.f1)).setCell ⟨gu, 2, none⟩ (.int .i64 z.f2)) = w8 at FX ⊢
                have HO := Aside0.mk (Kd.R_below HO.out FX.out.1)
                have HB := Aside0.mk (below_step HB.out FX.out.1)
                have KX := Aside0.mk (blk_below KX.out FX.out.1)
                have ku0 : w8.cell? ⟨gu, 0, none⟩ = some (.int .i64 z.f0) := (blk_cell FX.out.2 0).trans rfl
                have ku1 : w8.cell? ⟨gu, 1, none⟩ = some (.int .i64 z.f1) := (blk_cell FX.out.2 1).trans rfl
                have ku2 : w8.cell? ⟨gu, 2, none⟩ = some (.int .i64 z.f2) := (blk_cell FX.out.2 2).trans rfl
                clear FX
                obtain ⟨⟨a0, a1, a2, af⟩, -⟩ := RD.out _ HO.out
                have af0 : w8.frozen? ⟨g, k * 3, none⟩ = false := af 0
                have af1 := af 1
                have af2 := af 2
                clear af
                go_upto_region 23 with fail
                have HP := Aside0.mk (met_put HO.out k HKL.out z)
                clear ku0 ku1 ku2 a0 a1 a2 af0 af1 af2
                have HB := Aside0.mk (pw_below_grown HB.out _ HB.out.size HP.out.2 (fun m hm => by cases hm; exact Kd.R_base HO.out _ rfl))
                have KX := Aside0.mk ((HP.out.2.block gx (blk_lt KX.out) (fun e => by injection e with e; have := NX.out; omega)).trans KX.out)
                generalize (((w8.setCell ⟨g, k * 3, none⟩ (.int .i64 z.f0)).setCell ⟨g, k * 3 + 1, none⟩ (.int .i64 z.f1)).setCell ⟨g, k * 3 + 2, none⟩ (.int .i64 z.f2)) = w9 at HP HB KX ⊢
                have HO := Aside0.mk HP.out.1
                clear HP
                have kx0 : w9.cell? ⟨gx, 0, none⟩ = some (.int .i64 y.f0) := (blk_cell KX.out 0).trans rfl
                have kx1 : w9.cell? ⟨gx, 1, none⟩ = some (.int .i64 y.f1) := (blk_cell KX.out 1).trans rfl
                have kx2 : w9.cell? ⟨gx, 2, none⟩ = some (.int .i64 y.f2) := (blk_cell KX.out 2).trans rfl
                obtain ⟨b0, b1, b2, bf⟩ := met_at HO.out j HJL.out
                have bf0 : w9.frozen? ⟨g, j * 3, none⟩ = false := bf 0
                have bf1 := bf 1
                have bf2 := bf 2
                clear bf
                generalize rd_T154 ((insAt acc y k rest).set k z) (j : Int) = zz at b0 b1 b2
                go_upto_region 19 with fail
                have HP := Aside0.mk (met_put HO.out j HJL.out y)
                clear kx0 kx1 kx2 b0 b1 b2 bf0 bf1 bf2
                have HB := Aside0.mk (pw_below_grown HB.out _ HB.out.size HP.out.2 (fun m hm => by cases hm; exact Kd.R_base HO.out _ rfl))
                have HO := Aside0.mk HP.out.1
                clear HP KX
                rw [show ((insAt acc y k rest).set k z).set j y = insAt acc y j rest by rw [HJ.out, HZE.out]; exact insAt_swap HJA.out] at HO
                generalize (((w9.setCell ⟨g, j * 3, none⟩ (.int .i64 y.f0)).setCell ⟨g, j * 3 + 1, none⟩ (.int .i64 y.f1)).setCell ⟨g, j * 3 + 2, none⟩ (.int .i64 y.f2)) = w11 at HO HB ⊢
                have HKJ := Aside0.mk (show gk = j + 1 ∧ j ≤ i by have := HK.out; have := HJ.out; omega)
                obtain rfl := HKJ.out.1
                go_wp2_with fail
                go_roundg j
                case measure => omega
                case rel => exact ⟨j, rfl, ⟨rfl, HKJ.out.2⟩, HDJ, HO, HB⟩
        · have hit' : decide ((i : Int) < (xs.length : Int)) = false := decide_eq_false (by omega)
          rw [sortAt_end xs (by omega)] at HO
          obtain ⟨zs, hzs⟩ : ∃ zs, zs = sortM xs := ⟨_, rfl⟩
          have HZL := Aside0.mk (show zs.length = xs.length by rw [hzs, sortM_len])
          have HXM := Aside0.mk (fun x (h : x ∈ zs) => HXM.out x (mem_sortM.1 (hzs ▸ h)))
          have HZE := Aside0.mk (hzs.trans (congrArg sortM HXE.out))
          rw [← hzs] at HO
          clear hzs
          have HR1 := Aside0.mk (Kd.C_below HR1.out HB.out)
          have HZ := Aside0.mk (Kd.R_reads' HO.out).2.2
          clear HO
          obtain ⟨w12, rfl⟩ : ∃ z, z = wr := ⟨_, rfl⟩
          go_wp2_with fail
          go_loopg [20, 132] xs.length (fun kq v20 v132 w' => ∃ i : Nat, v132 = .int .i64 i ∧ Aside0 (i + kq = xs.length) ∧ Aside0 (Kd.R k56 56 w' w12.heap.size (fun _ => True) v20 ((zs.take i).map (evOf ps))) ∧ Aside0 (Below w12.heap.size w12 w'))
          case atStart => exact ⟨0, rfl, ⟨by omega⟩, ⟨Kd.R_nil _ _ _ _ _⟩, ⟨Below.refl _ _⟩⟩
          case round =>
            obtain ⟨m, rfl, HM, HQ, HE⟩ := hrel
            by_cases hmt : m < xs.length
            · cases gk with
              | zero => exact absurd HM.out (by omega)
              | succ go2 =>
                have hmt' : decide ((m : Int) < (xs.length : Int)) = true := decide_eq_true (by omega)
                obtain ⟨adz, e, x0, x1, x2⟩ := at_T154 HZ.out (m : Int) (by omega) (by have := HZL.out; omega)
                cases e
                rw [Int.toNat_natCast] at x0 x1 x2
                have hmz : m < zs.length := by rw [HZL.out]; exact hmt
                have hrd : rd_T154 zs (m : Int) = zs[m] := by simp [rd_T154, hmz]
                have hx := HXM.out (rd_T154 zs (m : Int)) (by rw [hrd]; exact List.getElem_mem hmz)
                have TS := Aside0.mk (show (zs.take (m + 1)).map (evOf ps) = (zs.take m).map (evOf ps) ++ [evOf ps (rd_T154 zs (m : Int))] by rw [List.take_succ_eq_append_getElem hmz, List.map_append, hrd]; rfl)
                clear hrd hmz
                generalize rd_T154 zs (m : Int) = x at x0 x1 x2 hx TS
                obtain ⟨ia, kp, -, hkp, ex, -⟩ := hx
                have hx2 : x.f2 = (kp : Int) := by rw [ex]
                have EX2 := Aside0.mk hx2
                rw [hx2] at x2
                clear ex hx2
                replace x0 := pw_cell_below HE.out x0
                replace x1 := pw_cell_below HE.out x1
                replace x2 := pw_cell_below HE.out x2
                have hkp0 : (0 : Int) ≤ (kp : Int) := by omega
                have hkp' : decide ((kp : Int) < (ps.length : Int)) = true := decide_eq_true (by omega)
                have TL := Aside0.mk (show ((zs.take m).map (evOf ps)).length ≤ 24000 by rw [List.length_map, List.length_take]; have := HML.out; have := HZL.out; omega)
                have W3 := Aside0.mk (show wrap64 ((m : Int) + 1) = ((m + 1 : Nat) : Int) from (wrap_id (by omega) (by have := HML.out; omega)).trans (by omega))
                go_upto_region 28 with ((with_reducible refine gate_dst (N := 22) rfl ?_); refine box_event ?hg (N := 22) ?hd (cs := #[.int .i64 0, .int .i64 0, .int .i64 0]) (t := 154) ?hr ?_; (case hd => rfl); (case hg => rfl); (case hr => first | (go_simp; done) | (go_simp; rfl)); intro gx ex wx kx bx; have EX := Aside0.mk ex; have KX := Aside0.mk kx; have BX := Aside0.mk bx; clear ex kx bx; have kx0 : wx.cell? ⟨gx, 0, none⟩ = some (.int .i64 0) := (blk_cell KX.out 0).trans rfl; have zkx0 := blk_frozen KX.out 0; have kx1 : wx.cell? ⟨gx, 1, none⟩ = some (.int .i64 0) := (blk_cell KX.out 1).trans rfl; have zkx1 := blk_frozen KX.out 1; have kx2 : wx.cell? ⟨gx, 2, none⟩ = some (.int .i64 0) := (blk_cell KX.out 2).trans rfl; have zkx2 := blk_frozen KX.out 2)
                have FX := Aside0.mk (fill3t (y0 := .int .i64 x.f0) (y1 := .int .i64 x.f1) (y2 := .int .i64 (kp : Int)) KX.out BX.out (Nat.le_of_eq EX.out.symm))
                clear kx0 zkx0 kx1 zkx1 kx2 zkx2 KX BX EX x0 x1 x2
                generalize (((wx.setCell ⟨gx, 0, none⟩ (.int .i64 x.f0)).setCell ⟨gx, 1, none⟩ (.int .i64 x.f1)).setCell ⟨gx, 2, none⟩ (.int .i64 (kp : Int))) = w13 at FX ⊢
                have kx2 : w13.cell? ⟨gx, 2, none⟩ = some (.int .i64 (kp : Int)) := (blk_cell FX.out.2 2).trans rfl
                have HQ := Aside0.mk (Kd.R_below HQ.out FX.out.1)
                have HE := Aside0.mk (below_step HE.out FX.out.1)
                clear FX
                obtain ⟨adp, e, p0, p1, p2⟩ := at_T143 HR1.out (kp : Int) (by omega) (by omega)
                cases e
                rw [Int.toNat_natCast] at p0 p1 p2
                have EV := Aside0.mk (show evOf ps x = ⟨1, (rd_T143 ps (kp : Int)).f1, (rd_T143 ps (kp : Int)).f2⟩ by rw [evOf, EX2.out])
                generalize rd_T143 ps (kp : Int) = pp at p0 p1 p2 EV
                replace p0 := pw_cell_below HE.out p0
                replace p1 := pw_cell_below HE.out p1
                replace p2 := pw_cell_below HE.out p2
                go_upto_region 29 with ((with_reducible refine gate_dst (N := 23) rfl ?_); refine box_event ?hg (N := 23) ?hd (cs := #[.int .i64 0, .int .i64 0, .int .i64 0]) (t := 143) ?hr ?_; (case hd => rfl); (case hg => rfl); (case hr => first | (go_simp; done) | (go_simp; rfl)); intro gu eu wu ku bu; have EU := Aside0.mk eu; have KU := Aside0.mk ku; have BU := Aside0.mk bu; clear eu ku bu; have ku0 : wu.cell? ⟨gu, 0, none⟩ = some (.int .i64 0) := (blk_cell KU.out 0).trans rfl; have zku0 := blk_frozen KU.out 0; have ku1 : wu.cell? ⟨gu, 1, none⟩ = some (.int .i64 0) := (blk_cell KU.out 1).trans rfl; have zku1 := blk_frozen KU.out 1; have ku2 : wu.cell? ⟨gu, 2, none⟩ = some (.int .i64 0) := (blk_cell KU.out 2).trans rfl; have zku2 := blk_frozen KU.out 2)
                have FX := Aside0.mk (fill3t (y0 := .int .i64 pp.f0) (y1 := .int .i64 pp.f1) (y2 := .int .i64 pp.f2) KU.out BU.out (Nat.le_of_eq EU.out.symm))
                clear ku0 zku0 ku1 zku1 ku2 zku2 KU BU EU p0 p1 p2 kx2
                generalize (((wu.setCell ⟨gu, 0, none⟩ (.int .i64 pp.f0)).setCell ⟨gu, 1, none⟩ (.int .i64 pp.f1)).setCell ⟨gu, 2, none⟩ (.int .i64 pp.f2)) = w14 at FX ⊢
                have ku1 : w14.cell? ⟨gu, 1, none⟩ = some (.int .i64 pp.f1) := (blk_cell FX.out.2 1).trans rfl
                have ku2 : w14.cell? ⟨gu, 2, none⟩ = some (.int .i64 pp.f2) := (blk_cell FX.out.2 2).trans rfl
                have HQ := Aside0.mk (Kd.R_below HQ.out FX.out.1)
                have HE := Aside0.mk (below_step HE.out FX.out.1)
                clear FX
                go_wp2_with (at_builtin; refine Kd.R_append k56 (w0 := w12) w12.heap.size rfl (.tmp 141) (.tmp 147) 35 56 (.agg #[.int .i64 0, .int .i64 0, .int .i64 0]) 24 rfl Try.underlying35 infoE56 rfl (by decide) (by decide) u20 ((zs.take m).map (evOf ps)) ⟨1, pp.f1, pp.f2⟩ [.int .i64 1, .int .i64 pp.f1, .int .i64 pp.f2] (fun _ => True) (fun _ => False) rfl rfl (k56_mkM _ _ _ ⟨1, pp.f1, pp.f2⟩) (fun k hk => hk.elim) (fun _ _ => trivial) HQ.out HE.out HE.out.size (by have := TL.out; omega) ?_; intro vn wn hsn hbn hgn _; have HN := Aside0.mk hsn; have HBN := Aside0.mk hbn; clear hsn hbn hgn)
                go_roundg go2
                case measure => omega
                case rel => exact ⟨m + 1, congrArg (Value.int .i64) W3.out, ⟨by have := HM.out; omega⟩, ⟨by rw [TS.out, EV.out]; exact HN.out⟩, HBN⟩
            · have hmt' : decide ((m : Int) < (xs.length : Int)) = false := decide_eq_false (by omega)
              have HQ := Aside0.mk (show Kd.R k56 56 wr w12.heap.size (fun _ => True) u20 (trainEvs ps ax fr tt) by have h := HQ.out; rw [List.take_of_length_le (by rw [HZL.out]; omega), HZE.out] at h; exact h)
              go_wp2_with fail
              go_ret
              exact ⟨_, rfl, Kd.R_lower HQ.out (Nat.le_trans BL.out.size HB.out.size), below_step (below_step BL.out HB.out) HE.out⟩
theorem spassing_is (n : Int) (A : Option Addr) (c : Nat) (l : List S88) (A1 : Option Addr) (c1 : Nat) (ps : List S143) (A2 : Option Addr) (c2 : Nat) (ax : List Int) (fr tt : Int) (w : World) (hr : Kd.C k88 w A l.length l) (hc : l.length ≤ c) (hr1 : Kd.C k143 w A1 ps.length ps) (hc1 : ps.length ≤ c1) (hr2 : Kd.C (Kd.int .i64) w A2 ax.length ax) (hc2 : ax.length ≤ c2) (hp : ps.length ≤ 1048576) (ha : ax.length ≤ 1048576) :
    Calls Try.prog 80 #[.agg #[.int .i64 n, .slice A l.length c], .slice A1 ps.length c1, .slice A2 ax.length c2, .int .i64 fr, .int .i64 tt] w fun e w' => ∃ v0_ : Value, e = .returned v0_ ∧ Kd.R k56 56 w' w.heap.size (fun _ => True) v0_ (passing n l ps ax fr tt) ∧ Below w.heap.size w w' := by
  by_cases t0 : layoutOk n l = 0
  · cases t1 : (postsTo l ps ps.length && decide (ps.length ≤ 120))
    · have e : passOk n l ps ax fr tt = false := by rw [passOk, decide_eq_true t0, t1]; simp
      rw [passing, e, if_neg (by decide)]
      exact spass_no1 n A c l A1 c1 ps A2 c2 ax fr tt w hr hc hr1 hc1 hr2 hc2 hp ha t0 t1
    · cases t2 : (axlesTo ax ax.length && decide (ax.length ≤ 200))
      · have e : passOk n l ps ax fr tt = false := by rw [passOk, decide_eq_true t0, t1, t2]; simp
        rw [passing, e, if_neg (by decide)]
        exact spass_no2 n A c l A1 c1 ps A2 c2 ax fr tt w hr hc hr1 hc1 hr2 hc2 hp ha t0 t1 t2
      · cases t3 : (decide (0 ≤ fr) && decide (fr ≤ 1000000))
        · have e : passOk n l ps ax fr tt = false := by rw [passOk, decide_eq_true t0, t1, t2, t3]; simp
          rw [passing, e, if_neg (by decide)]
          exact spass_no3 n A c l A1 c1 ps A2 c2 ax fr tt w hr hc hr1 hc1 hr2 hc2 hp ha t0 t1 t2 t3
        · cases t4 : (decide (fr ≤ tt) && decide (tt ≤ 1000000))
          · have e : passOk n l ps ax fr tt = false := by rw [passOk, decide_eq_true t0, t1, t2, t3, t4]; simp
            rw [passing, e, if_neg (by decide)]
            exact spass_no4 n A c l A1 c1 ps A2 c2 ax fr tt w hr hc hr1 hc1 hr2 hc2 hp ha t0 t1 t2 t3 t4
          · have e : passOk n l ps ax fr tt = true := by rw [passOk, decide_eq_true t0, t1, t2, t3, t4]; rfl
            rw [passing, e, if_pos rfl]
            exact spass_yes n A c l A1 c1 ps A2 c2 ax fr tt w hr hc hr1 hc1 hr2 hc2 hp ha t0 t1 t2 t3 t4
  · have e : passOk n l ps ax fr tt = false := by rw [passOk, decide_eq_false t0]; simp
    rw [passing, e, if_neg (by decide)]
    exact spass_no0 n A c l A1 c1 ps A2 c2 ax fr tt w hr hc hr1 hc1 hr2 hc2 hp ha _ rfl (by simp [t0])
end Go.Proofs.Ytpdnabhpkdchjaa.P
namespace Go.Proofs.Ytpdnabhpkdchjaa.P
open Go Go.Sort Go.RowKit Go.Proofs Go.Proofs.YtpdnabhpkdchjaaW.PrintWords Go.Proofs.YtpdnabhpkdchjaaW.PrintLast Go.Proofs.YtpdnabhpkdchjaaW.PrintMore
set_option linter.unusedVariables false
set_option linter.unusedSimpArgs false
def BdM (x : S154) : Prop := (0 ≤ x.f0 ∧ x.f0 ≤ 4000000) ∧ (0 ≤ x.f1 ∧ x.f1 ≤ 4000000) ∧ (0 ≤ x.f2 ∧ x.f2 ≤ 4000000)
structure BM where
  val : S154
  bd : BdM val
instance inhBM : Inhabited BM := ⟨⟨z154, by unfold BdM z154; dsimp only; omega⟩⟩
def encM (x : BM) : List Value := [.int .i64 x.1.f0, .int .i64 x.1.f1, .int .i64 x.1.f2]
def cfM (x y : BM) : Int := if x.1.f0 - y.1.f0 = 0 then (if x.1.f1 - y.1.f1 = 0 then x.1.f2 - y.1.f2 else x.1.f1 - y.1.f1) else x.1.f0 - y.1.f0
theorem cfM_lt (x y : BM) : ltOf cfM x y = lexLt x.1 y.1 := by
  unfold ltOf cfM
  cases hq : lexLt x.1 y.1
  · rw [lexLt_not] at hq
    refine decide_eq_false ?_
    split
    · split <;> omega
    · omega
  · rw [lexLt_iff] at hq
    refine decide_eq_true ?_
    split
    · split <;> omega
    · omega
theorem cfM_swo : SWO (ltOf cfM) where
  irrefl x := by rw [cfM_lt, lexLt_irrefl]
  trans x y z h1 h2 := by rw [cfM_lt] at *; exact lexLt_trans h1 h2
  ntrans x y z h1 h2 := by
    rw [cfM_lt] at *
    rw [lexLt_not] at *
    omega
section
variable {w : World} {base e g m c : Nat} {ok : Nat → Prop} {xs : List S154}
theorem met_cells (h : Kd.R k154 e w base ok (.slice (some ⟨g, 0, none⟩) m c) xs) (i : Nat) (h1 : i < m) :
    w.cell? ⟨g, i * 3, none⟩ = some (.int .i64 (rd_T154 xs (i : Int)).f0) ∧ w.cell? ⟨g, i * 3 + 1, none⟩ = some (.int .i64 (rd_T154 xs (i : Int)).f1) ∧ w.cell? ⟨g, i * 3 + 2, none⟩ = some (.int .i64 (rd_T154 xs (i : Int)).f2) ∧ ∀ j, w.frozen? ⟨g, i * 3 + j, none⟩ = false := by
  obtain ⟨ce, hcl, hM, hcc, hfr⟩ := Kd.R_elem h z154 (i : Int) (by omega) (by omega)
  obtain rfl := k154_openM hM
  rw [Int.toNat_natCast] at hcc hfr
  exact ⟨hcc 0 _ rfl, hcc 1 _ rfl, hcc 2 _ rfl, fun j => hfr j⟩
theorem flat_at (d : Array BM) (i j : Nat) (hi : i < d.size) (hj : j < 3) : (flatK encM 3 d)[i * 3 + j]! = (encM d[i]!)[j]! := by
  rw [get_flatK _ _ _ _ (by omega), show (i * 3 + j) / 3 = i by omega, show (i * 3 + j) % 3 = j by omega]
theorem bm_get {d : Array BM} (hd : d.toList.map BM.val = xs) (i : Nat) (hi : i < d.size) : (d[i]!).1 = rd_T154 xs (i : Int) := by
  subst hd
  rw [getElem!_pos d i hi, rd_T154, Int.toNat_natCast, List.getD_eq_getElem?_getD, List.getElem?_map]
  simp [hi]
theorem met_holds (h : Kd.R k154 e w base ok (.slice (some ⟨g, 0, none⟩) m c) xs) (d : Array BM) (hd : d.toList.map BM.val = xs) (hm : m = xs.length) : HoldsK encM 3 w g 0 d := by
  intro j hj
  rw [size_flatK] at hj
  have hs : d.size = xs.length := by rw [← hd]; simp
  have hi : j / 3 < d.size := by omega
  obtain ⟨c0, c1, c2, fr⟩ := met_cells h (j / 3) (by omega)
  have hg := bm_get hd (j / 3) hi
  have e : j = j / 3 * 3 + j % 3 := by omega
  have hr : j % 3 < 3 := by omega
  generalize j / 3 = i at *
  generalize j % 3 = q at *
  subst e
  rw [Nat.zero_add]
  refine ⟨?_, fr q⟩
  rw [flat_at d i q hi hr]
  rcases (show q = 0 ∨ q = 1 ∨ q = 2 by omega) with rfl | rfl | rfl
  · rw [Nat.add_zero, c0, ← hg]; rfl
  · rw [c1, ← hg]; rfl
  · rw [c2, ← hg]; rfl
theorem heapK {n : Nat} {os : Array Obj} {cur : Array Value} {fr : Nat × Nat} (d : Array BM) (hb : w.heap[g]? = some (.cells cur e fr)) :
    (sortWorldK encM 3 w g 0 n d os).heap[g]? = some (.cells (putCells id 0 (flatK encM 3 d) cur) e fr) := by
  have hg : g < w.heap.size := (Array.getElem?_eq_some_iff.1 hb).1
  unfold sortWorldK putRowK
  rw [heap_grow_old _ _ (by simpa [putRow, mapBlock, Sort.ahead] using hg)]
  simp [putRow, mapBlock, Sort.ahead, Array.getElem?_modify, hb, onCells]
theorem grownK {n : Nat} {os : Array Obj} (d : Array BM) : w.grownBy (sortWorldK encM 3 w g 0 n d os) (some g) := by
  unfold sortWorldK putRowK
  refine ⟨rfl, rfl, rfl, by simp [grow, putRow, mapBlock, Sort.ahead], fun k hk hne => ?_⟩
  rw [heap_grow_old _ _ (by simpa [putRow, mapBlock, Sort.ahead] using hk)]
  have : g ≠ k := fun e => hne (by rw [e])
  simp [putRow, mapBlock, Sort.ahead, Array.getElem?_modify, this]
theorem take_putK (cur : Array Value) (F : Array Value) (h : F.size ≤ cur.size) : (putCells id 0 F cur).toList.take F.size = F.toList := by
  apply List.ext_getElem?
  intro j
  by_cases hj : j < F.size
  · rw [List.getElem?_take_of_lt hj, Array.getElem?_toList]
    simp [putCells, hj, show j < cur.size by omega]
  · rw [List.getElem?_take_eq_none (by omega), List.getElem?_eq_none (by simp; omega)]
theorem flat_seg (d : Array BM) (i : Nat) (hi : i < d.size) : ((flatK encM 3 d).toList.drop (i * 3)).take 3 = encM d[i]! := by
  apply List.ext_getElem?
  intro j
  by_cases hj : j < 3
  · have hs : i * 3 + j < (flatK encM 3 d).size := by rw [size_flatK]; omega
    rw [List.getElem?_take_of_lt hj, List.getElem?_drop, Array.getElem?_toList, Array.getElem?_eq_getElem hs, ← getElem!_pos (flatK encM 3 d) _ hs, flat_at d i j hi hj]
    rcases (show j = 0 ∨ j = 1 ∨ j = 2 by omega) with rfl | rfl | rfl <;> rfl
  · rw [List.getElem?_take_eq_none (by omega), List.getElem?_eq_none (by show 3 ≤ j; omega)]
theorem met_sorted (h : Kd.R k154 e w base ok (.slice (some ⟨g, 0, none⟩) m c) xs) (d : Array BM) (hs : d.size = xs.length) (n : Nat) (os : Array Obj) :
    Kd.R k154 e (sortWorldK encM 3 w g 0 n d os) base ok (.slice (some ⟨g, 0, none⟩) m c) (d.toList.map BM.val) := by
  obtain ⟨hok, inner, ⟨hl, ho⟩, hr⟩ := h
  rcases ho with ⟨hv, _⟩ | ⟨g', cap, cur, hv, hb, hh, hnc, hcm, hcs, ht⟩
  · cases hv
  injection hv with ha hn hc
  injection ha with ha
  injection ha with hg
  subst hg hc
  have hll : (d.toList.map BM.val).length = xs.length := by rw [List.length_map, Array.length_toList, hs]
  refine ⟨hok, (flatK encM 3 d).toList, ⟨by rw [hll, Array.length_toList, size_flatK, hs]; rfl, .inr ⟨g, c, _, by rw [hll]; exact congrArg (fun q => Value.slice _ q _) hn, hb, heapK d hh, by rw [hll]; exact hnc, hcm, by simp [putCells, hcs], ?_⟩⟩, by rw [hll, Array.length_toList, size_flatK, hs]; rfl, fun j p hp => ?_⟩
  · have hz : (d.toList.map BM.val).length * k154.sz = (flatK encM 3 d).size := by rw [hll, size_flatK, hs]; rfl
    rw [hz]
    refine take_putK cur _ ?_
    rw [size_flatK, hcs, hs]
    exact Nat.mul_le_mul_right _ hnc
  · have hj : j < d.size := by
      have := (List.getElem?_eq_some_iff.1 hp).1
      rwa [List.length_map, Array.length_toList] at this
    have e2 : ((flatK encM 3 d).toList.drop (j * k154.sz)).take k154.sz = encM d[j]! := flat_seg d j hj
    rw [e2]
    have e3 : (d[j]!).1 = p := by
      rw [List.getElem?_map, Array.getElem?_toList, Array.getElem?_eq_getElem hj] at hp
      rw [getElem!_pos d j hj]
      injection hp
    rw [← e3]
    exact k154_mkM _ _ _ (d[j]!).1
end
theorem sorted_is {xs : List S154} (hx : xs.Nodup) (d d' : Array BM) (hd : d.toList.map BM.val = xs) (hp : PermIn 0 d.size d d') (hs : SortedIn (ltOf cfM) 0 d.size d') : d'.size = xs.length ∧ d'.toList.map BM.val = sortM xs := by
  obtain ⟨h1, -, h3⟩ := hp
  have hsz : d.size = xs.length := by rw [← hd]; simp
  have e1 : d.extract 0 d.size = d := by simp
  have e2 : d'.extract 0 d.size = d' := by rw [← h1]; simp
  rw [e1, e2] at h3
  refine ⟨by omega, lex_unique ?_ ?_ (sortM_sorted xs hx)⟩
  · exact ((h3.map BM.val).trans (by rw [hd])).trans (sortM_perm xs).symm
  · rw [List.pairwise_map, List.pairwise_iff_getElem]
    intro i j hi hj hij
    rw [Array.length_toList] at hi hj
    have h := hs i j (Nat.zero_le _) hij (by omega)
    rw [cfM_lt, getElem!_pos d' i hi, getElem!_pos d' j hj] at h
    have hne : (d'[i]).1 ≠ (d'[j]).1 := by
      intro he
      have hnd : (d'.toList.map BM.val).Nodup := ((h3.map BM.val).trans (by rw [hd])).nodup_iff.2 hx
      rw [List.Nodup, List.pairwise_map, List.pairwise_iff_getElem] at hnd
      exact hnd i j (by simpa using hi) (by simpa using hj) hij (by simpa using he)
    rw [Array.getElem_toList, Array.getElem_toList]
    cases hq : lexLt (d'[i]).1 (d'[j]).1
    · exact absurd (lexLt_total hq h) hne
    · rfl
end Go.Proofs.Ytpdnabhpkdchjaa.P
namespace Go.Proofs.Ytpdnabhpkdchjaa.P
open Go Go.Sort Go.RowKit Go.Proofs Go.Proofs.YtpdnabhpkdchjaaW.PrintWords Go.Proofs.YtpdnabhpkdchjaaW.PrintLast Go.Proofs.YtpdnabhpkdchjaaW.PrintMore
set_option linter.unusedVariables false
set_option linter.unusedSimpArgs false
def sortMet_ren : Go.Shelf.Ren := ⟨fun | 6 => 120 | 15 => 136 | 14 => 135 | 28 => 145 | 29 => 146 | 20 => 137 | 21 => 138 | 22 => 139 | 23 => 140 | 24 => 141 | 25 => 142 | 26 => 143 | 27 => 144 | 46 => 147 | 47 => 148 | 48 => 149 | 49 => 150 | 50 => 151 | 57 => 152 | n => n, fun | 22 => 144 | 24 => 146 | 25 => 149 | 3 => 3 | 39 => 172 | 0 => 0 | 53 => 182 | 55 => 114 | 4 => 4 | 46 => 175 | 45 => 174 | 50 => 179 | 5 => 5 | 9 => 9 | 66 => 184 | 70 => 188 | 76 => 190 | 77 => 191 | n => n, fun | n => n⟩
theorem sortMet : Go.Proofs.SlLaysF0.n6 Try.prog sortMet_ren := {
  mixed := by kernel_rfl,
  f6 := ⟨Try.f120.name, by decide, Try.func120.trans (congrArg some (by kernel_rfl))⟩,
  f14 := ⟨Try.f135.name, by decide, Try.func135.trans (congrArg some (by kernel_rfl))⟩,
  f15 := Try.func136.trans (congrArg some (by kernel_rfl)),
  f20 := ⟨Try.f137.name, by decide, Try.func137.trans (congrArg some (by kernel_rfl))⟩,
  f21 := ⟨Try.f138.name, by decide, Try.func138.trans (congrArg some (by kernel_rfl))⟩,
  f22 := ⟨Try.f139.name, by decide, Try.func139.trans (congrArg some (by kernel_rfl))⟩,
  f23 := ⟨Try.f140.name, by decide, Try.func140.trans (congrArg some (by kernel_rfl))⟩,
  f24 := ⟨Try.f141.name, by decide, Try.func141.trans (congrArg some (by kernel_rfl))⟩,
  f25 := ⟨Try.f142.name, by decide, Try.func142.trans (congrArg some (by kernel_rfl))⟩,
  f26 := ⟨Try.f143.name, by decide, Try.func143.trans (congrArg some (by kernel_rfl))⟩,
  f27 := ⟨Try.f144.name, by decide, Try.func144.trans (congrArg some (by kernel_rfl))⟩,
  f28 := Try.func145.trans (congrArg some (by kernel_rfl)),
  f29 := Try.func146.trans (congrArg some (by kernel_rfl)),
  f46 := ⟨Try.f147.name, by decide, Try.func147.trans (congrArg some (by kernel_rfl))⟩,
  f47 := Try.func148.trans (congrArg some (by kernel_rfl)),
  f48 := Try.func149.trans (congrArg some (by kernel_rfl)),
  f49 := ⟨Try.f150.name, by decide, Try.func150.trans (congrArg some (by kernel_rfl))⟩,
  f50 := ⟨Try.f151.name, by decide, Try.func151.trans (congrArg some (by kernel_rfl))⟩,
  f57 := ⟨Try.f152.name, by decide, Try.func152.trans (congrArg some (by kernel_rfl))⟩,
  t0 := Try.underlying0,
  a0 := Try.isAgg0,
  z0 := Try.sizeOf0,
  v0 := Try.zeroValue0,
  t3 := Try.underlying3,
  a3 := Try.isAgg3,
  z3 := Try.sizeOf3,
  v3 := Try.zeroValue3,
  t4 := Try.underlying4,
  a4 := Try.isAgg4,
  z4 := Try.sizeOf4,
  v4 := Try.zeroValue4,
  t5 := Try.underlying5,
  a5 := Try.isAgg5,
  z5 := Try.sizeOf5,
  v5 := Try.zeroValue5,
  t9 := Try.underlying9,
  a9 := Try.isAgg9,
  z9 := Try.sizeOf9,
  v9 := Try.zeroValue9,
  t22 := Try.underlying144,
  a22 := Try.isAgg144,
  z22 := Try.sizeOf144,
  v22 := Try.zeroValue144,
  t25 := Try.underlying149,
  a25 := Try.isAgg149,
  z25 := Try.sizeOf149,
  v25 := Try.zeroValue149,
  t39 := Try.underlying172,
  a39 := Try.isAgg172,
  z39 := Try.sizeOf172,
  v39 := Try.zeroValue172,
  t45 := Try.underlying174,
  a45 := Try.isAgg174,
  z45 := Try.sizeOf174,
  v45 := Try.zeroValue174,
  t46 := Try.underlying175,
  a46 := Try.isAgg175,
  z46 := Try.sizeOf175,
  v46 := Try.zeroValue175,
  t50 := Try.underlying179,
  a50 := Try.isAgg179,
  z50 := Try.sizeOf179,
  v50 := Try.zeroValue179,
  t53 := Try.underlying182,
  a53 := Try.isAgg182,
  z53 := Try.sizeOf182,
  v53 := Try.zeroValue182,
  t55 := Try.underlying114,
  a55 := Try.isAgg114,
  z55 := Try.sizeOf114,
  v55 := Try.zeroValue114,
  t66 := Try.underlying184,
  a66 := Try.isAgg184,
  z66 := Try.sizeOf184,
  v66 := Try.zeroValue184,
  t70 := Try.underlying188,
  a70 := Try.isAgg188,
  z70 := Try.sizeOf188,
  v70 := Try.zeroValue188,
  t76 := Try.underlying190,
  a76 := Try.isAgg190,
  z76 := Try.sizeOf190,
  v76 := Try.zeroValue190,
  t77 := Try.underlying191,
  a77 := Try.isAgg191,
  z77 := Try.sizeOf191,
  v77 := Try.zeroValue191 }
set_option maxHeartbeats 4000000 in
set_option maxRecDepth 100000 in
theorem or3_is (g c : Nat) (x y z : Int) (w : World) (h0 : w.cell? ⟨g, 0, none⟩ = some (.int .i64 x)) (h1 : w.cell? ⟨g, 1, none⟩ = some (.int .i64 y)) (h2 : w.cell? ⟨g, 2, none⟩ = some (.int .i64 z)) :
    Calls Try.prog 122 #[.slice (some ⟨g, 0, none⟩) 3 c] w fun e w' => e = .returned (.int .i64 (if x = 0 then (if y = 0 then z else y) else x)) ∧ w' = w := by
  have hr : (if x = 0 then (if y = 0 then z else y) else x) = (if x = 0 then (if y = 0 then (if z = 0 then 0 else z) else y) else x) := by
    split
    · split
      · split
        · rename_i h; exact h
        · rfl
      · rfl
    · rfl
  rw [hr]
  clear hr
  go_enter Try.func122, Try.ntmps122
  go_wp2_with fail
  go_loopg [8] 3 (fun kq v8 w' => w' = w ∧ ((kq = 3 ∧ v8 = .int .i64 0) ∨ (kq = 2 ∧ v8 = .int .i64 1 ∧ x = 0) ∨ (kq = 1 ∧ v8 = .int .i64 2 ∧ x = 0 ∧ y = 0) ∨ (kq = 0 ∧ v8 = .int .i64 3 ∧ x = 0 ∧ y = 0 ∧ z = 0)))
  case atStart => exact ⟨rfl, .inl ⟨rfl, rfl⟩⟩
  case round =>
    obtain ⟨rfl, ⟨rfl, rfl⟩ | ⟨rfl, rfl, rfl⟩ | ⟨rfl, rfl, rfl, rfl⟩ | ⟨rfl, rfl, rfl, rfl, rfl⟩⟩ := hrel
    · by_cases hx : x = 0
      · have hb : (x != 0) = false := by simp [hx]
        go_wp2_with fail
        go_roundg 2
        case measure => omega
        case rel => exact ⟨rfl, .inr (.inl ⟨rfl, rfl, hx⟩)⟩
      · have hb : (x != 0) = true := by simp [hx]
        go_wp2_with fail
        go_ret
        exact ⟨by simp [hx], rfl⟩
    · by_cases hx : y = 0
      · have hb : (y != 0) = false := by simp [hx]
        go_wp2_with fail
        go_roundg 1
        case measure => omega
        case rel => exact ⟨rfl, .inr (.inr (.inl ⟨rfl, rfl, trivial, hx⟩))⟩
      · have hb : (y != 0) = true := by simp [hx]
        go_wp2_with fail
        go_ret
        exact ⟨by simp [hx], rfl⟩
    · by_cases hx : z = 0
      · have hb : (z != 0) = false := by simp [hx]
        go_wp2_with fail
        go_roundg 0
        case measure => omega
        case rel => exact ⟨rfl, .inr (.inr (.inr ⟨rfl, rfl, trivial, trivial, hx⟩))⟩
      · have hb : (z != 0) = true := by simp [hx]
        go_wp2_with fail
        go_ret
        exact ⟨by simp [hx], rfl⟩
    · go_wp2_with fail
      go_ret
      exact ⟨rfl, rfl⟩
set_option maxHeartbeats 4000000 in
set_option maxRecDepth 100000 in
theorem cmpI (a0 a1 a2 b0 b1 b2 : Int) (hx0 : 0 ≤ a0 ∧ a0 ≤ 4000000) (hx1 : 0 ≤ a1 ∧ a1 ≤ 4000000) (hx2 : 0 ≤ a2 ∧ a2 ≤ 4000000) (hy0 : 0 ≤ b0 ∧ b0 ≤ 4000000) (hy1 : 0 ≤ b1 ∧ b1 ≤ 4000000) (hy2 : 0 ≤ b2 ∧ b2 ≤ 4000000) (W : World) :
    Calls Try.prog 121 #[.agg #[.int .i64 a0, .int .i64 a1, .int .i64 a2], .agg #[.int .i64 b0, .int .i64 b1, .int .i64 b2]] W fun e w' => e = .returned (.int .i64 (if a0 - b0 = 0 then (if a1 - b1 = 0 then a2 - b2 else a1 - b1) else a0 - b0)) ∧ ∃ q os', w' = grow (W.drewN q) os' := by
  have e0 : IntKind.i64.wrap (a0 - b0) = a0 - b0 := (i64_w _).trans (wrap_id (by omega) (by omega))
  have e1 : IntKind.i64.wrap (a1 - b1) = a1 - b1 := (i64_w _).trans (wrap_id (by omega) (by omega))
  have e2 : IntKind.i64.wrap (a2 - b2) = a2 - b2 := (i64_w _).trans (wrap_id (by omega) (by omega))
  clear hx0 hx1 hx2 hy0 hy1 hy2
  obtain ⟨p, hp⟩ : ∃ p, p = a0 - b0 := ⟨_, rfl⟩
  obtain ⟨q, hq⟩ : ∃ q, q = a1 - b1 := ⟨_, rfl⟩
  obtain ⟨r, hr⟩ : ∃ r, r = a2 - b2 := ⟨_, rfl⟩
  rw [← hp, ← hq, ← hr]
  have E0 := e0.trans hp.symm
  have E1 := e1.trans hq.symm
  have E2 := e2.trans hr.symm
  clear e0 e1 e2 hp hq hr
  obtain ⟨v, hv⟩ : ∃ v, v = (if p = 0 then (if q = 0 then r else q) else p) := ⟨_, rfl⟩
  rw [← hv]
  have OR := Aside0.mk (show ∀ (g c : Nat) (w : World), w.cell? ⟨g, 0, none⟩ = some (.int .i64 p) → w.cell? ⟨g, 1, none⟩ = some (.int .i64 q) → w.cell? ⟨g, 2, none⟩ = some (.int .i64 r) →
    Calls Try.prog 122 #[.slice (some ⟨g, 0, none⟩) 3 c] w fun e w' => e = .returned (.int .i64 v) ∧ w' = w from fun g c w h0 h1 h2 => by rw [hv]; exact or3_is g c p q r w h0 h1 h2)
  clear hv
  go_enter Try.func121, Try.ntmps121
  go_wp2_with (go_at_call 122; refine (OR.out _ _ _ ?c0 ?c1 ?c2).mono ?_; (case c0 => go_simp); (case c1 => go_simp); (case c2 => go_simp); rintro e w' ⟨rfl, rfl⟩)
  go_ret
  exact ⟨rfl, 0, _, by rw [alloc_eq_grow, alloc_eq_grow, alloc_eq_grow, grow_grow, grow_grow]; rfl⟩
theorem cmp121 (x y : BM) (W : World) : Calls Try.prog 121 #[.agg (encM x).toArray, .agg (encM y).toArray] W fun e w' => e = .returned (.int .i64 (cfM x y)) ∧ ∃ q os', w' = grow (W.drewN q) os' :=
  cmpI x.1.f0 x.1.f1 x.1.f2 y.1.f0 y.1.f1 y.1.f2 x.2.1 x.2.2.1 x.2.2.2 y.2.1 y.2.2.1 y.2.2.2 W
theorem isAgg146 : ∀ w, (isAgg 146).run Try.prog w = .ok true w := Try.isAgg146
theorem sizeOf146 : ∀ w, (Go.sizeOf 146).run Try.prog w = .ok 3 w := Try.sizeOf146
theorem bm_list {xs : List S154} (hb : ∀ x ∈ xs, BdM x) : ∃ d : Array BM, d.toList.map BM.val = xs := by
  induction xs with
  | nil => exact ⟨#[], rfl⟩
  | cons x xs ih =>
    obtain ⟨d, hd⟩ := ih (fun y hy => hb y (List.mem_cons_of_mem _ hy))
    exact ⟨(⟨x, hb x List.mem_cons_self⟩ :: d.toList).toArray, by rw [List.map_cons, hd]⟩
section
variable {w : World} {base g m c : Nat} {ok : Nat → Prop} {xs : List S154}
theorem sort_is (h : Kd.R k154 146 w base ok (.slice (some ⟨g, 0, none⟩) m c) xs) (hx : xs.Nodup) (hb : ∀ x ∈ xs, BdM x) (hl : xs.length ≤ 1000000) :
    Calls Try.prog 120 #[.slice (some ⟨g, 0, none⟩) m c, .func (.func 121) #[] #[]] w fun e w' => e = .returned (.tuple #[]) ∧ Kd.R k154 146 w' base ok (.slice (some ⟨g, 0, none⟩) m c) (sortM xs) ∧ w.grownBy w' (some g) := by
  have hm : m = xs.length := (Kd.R_reads' h).1
  obtain ⟨d, hd⟩ := bm_list hb
  have hs : d.size = xs.length := by rw [← hd]; simp
  have eg : ∀ args w, (callFunc 121 args).run Try.prog w = .ok (.enter 121 args) w := enters_of Try.func121 (by kernel_rfl) rfl
  have hcon := AnyQ.slices_SortFunc sortMet 3 isAgg146 sizeOf146 encM (fun _ => rfl) (fun x v hv => by simp [encM] at hv; rcases hv with rfl | rfl | rfl <;> rfl) cfM cfM_swo 121 #[] g 0 c d w eg (fun _ _ _ _ x y => cmp121 x y _) (met_holds h d hd hm) (Kd.R_lt h g rfl) (by omega)
  change Calls Try.prog 120 _ _ _ at hcon
  rw [hs, ← hm] at hcon
  refine hcon.mono ?_
  rintro e w' ⟨rfl, d', n, os, hp, hso, rfl⟩
  rw [hm, ← hs] at hp hso
  obtain ⟨h1, h2⟩ := sorted_is hx d d' hd hp hso
  exact ⟨rfl, by rw [← h2]; exact met_sorted h d' h1 n os, grownK d'⟩
theorem sort_none (p : Option Addr) (c : Nat) (w : World) : Calls Try.prog 120 #[.slice p 0 c, .func (.func 121) #[] #[]] w fun e w' => e = .returned (.tuple #[]) ∧ w' = w :=
  AnyF.slices_SortFunc_none sortMet p c _ w
end
end Go.Proofs.Ytpdnabhpkdchjaa.P
namespace Go.Proofs.Ytpdnabhpkdchjaa.P
open Go Go.RowKit Go.Proofs.YtpdnabhpkdchjaaW.PrintWords Go.Proofs.YtpdnabhpkdchjaaW.PrintLast Go.Proofs.YtpdnabhpkdchjaaW.PrintMore
set_option linter.unusedVariables false
set_option linter.unusedSimpArgs false
def ip_T7 : Bool × List (List Nat × List Nat) := (true, [([], []), ([], []), ([1], [1]), ([0, 2], [0, 2]), ([3], [3]), ([4, 3], [4]), ([5], [5]), ([6, 5], [5, 6]), ([7, 5, 5], [5, 7]), ([8], [8]), ([9, 8], [8, 9]), ([8], [8]), ([8], [8]), ([12, 8], [8, 12]), ([11, 13, 8], [8, 11, 13]), ([14, 8], [8, 14]), ([15, 8], [8, 15]), ([10, 16, 8], [8, 10, 16]), ([8, 17, 5], [5, 8, 17]), ([5, 18], [5, 18]), ([19, 8], [19]), ([20], [20]), ([21, 20], [20, 21]), ([22, 20], [20, 22]), ([20, 23], [20, 23]), ([24, 20], [24]), ([25], [25]), ([26, 25], [25, 26]), ([25], [25]), ([28, 25], [25, 28]), ([29, 25], [25, 29]), ([27, 30, 25], [25, 27, 30]), ([25, 31], [25, 31]), ([32, 25], [32]), ([33], [33]), ([34, 33], [33, 34]), ([35, 33], [33, 35]), ([36, 33, 33], [33, 36]), ([37], [37]), ([38, 37], [37, 38]), ([39, 37], [37, 39]), ([37, 40, 33], [33, 37, 40]), ([33, 41], [33, 41])])
def ip_B7 : List Nat := [0, 0, 2, 7, 15, 31, 63, 127, 255, 511, 1023, 511, 511, 4607, 14847, 31231, 63999, 131071, 262143, 524287, 1048575, 2097151, 4194303, 8388607, 16777215, 33554431, 67108863, 134217727, 67108863, 335544319, 872415231, 2147483647, 4294967295, 8589934591, 17179869183, 34359738367, 68719476735, 137438953471, 274877906943, 549755813887, 1099511627775, 2199023255551, 4398046511103]
theorem ip_tab7 : rtab .any (opsOf Try.f75 7) = ip_T7 := by kernel_rfl
theorem ip_bits7 : waitsOk ip_T7.2 ip_B7 = true := by kernel_rfl
def ip_T33 : Bool × List (List Nat × List Nat) := (true, [([], []), ([], []), ([], []), ([2], [2]), ([1, 3], [1, 3]), ([4], [4]), ([5], [5]), ([], []), ([], []), ([8], [8]), ([7, 9], [7, 9]), ([10], [10]), ([11], [11]), ([6, 12], [6, 12]), ([13], [13]), ([0, 14], [0, 14]), ([15, 15, 0, 1, 2, 3, 4, 5, 6, 7, 8, 9, 10, 11, 12, 13, 14, 15], [0, 15])])
def ip_B33 : List Nat := [0, 0, 0, 4, 14, 30, 62, 0, 0, 256, 896, 1920, 3968, 8190, 16382, 32767, 65535]
theorem ip_tab33 : rtab .any (opsOf Try.f75 33) = ip_T33 := by kernel_rfl
theorem ip_bits33 : waitsOk ip_T33.2 ip_B33 = true := by kernel_rfl
theorem info146 : (Try.prog.info? 146).map (fun i => (i.zero, i.size, i.bytes)) = some (some (.agg #[(.int .i64 0), (.int .i64 0), (.int .i64 0)]), 3, 24) := by kernel_rfl
theorem goesV_ {P : Program} {ops : Array Oper} {Q : Exit → Act → World → Prop} {oi : Oper} {N : Option Tmp} {a : Act} {w : World} {K : Act → World → Prop} {f : FuncId} {fn : Func} {s : Operand} {as_ : Array Operand} {ts : Array TypeId} (hf : P.funcs[f]? = some fn) (hname : (fn.name == "runtime.NumGoroutine") = false) (hb : fn.body.isSome = true) (args : Array Value)
    (hw : Region.wanted oi (yielded ops a.tmps) = true) (hN : oi.dst = N) (hop : oi.op = .call { callee := .value s, args := as_, argTypes := ts }) (hs : a.eval s = .func (.func f) #[] #[]) (hargs : as_.map a.eval = args)
    (h : Calls P f args w fun e w' => ∃ v, e = .returned v ∧ K (a.put N v) w') : if Region.wanted oi (yielded ops a.tmps) = true then Oper.wp P oi a w K Q else K (a.put N undef) w := by
  refine call_ f args hw hN ?_ h
  have he := enters_ hf hname hb args w
  unfold execOp
  simp [hop, resolve, Deferred.ofValue, invoke, hs, hargs, he]
theorem takeU {P : Program} {md : Region.Mode} {ops : Array Oper} {T : Bool × List (List Nat × List Nat)} {B : List Nat} {Q : Exit → Act → World → Prop} {S : World → Prop} {ds : List Nat} {n k fuel k' j : Nat} {u : Bool} {N : Option Tmp} {a a' : Act} {w : World} {op : Op} {ty : TypeId} {pos : String} {af : Array Edge} (hk : k + 1 = k') (hi : ops[k]? = some ⟨N, op, ty, pos, af, some (j, u)⟩) (hw : Region.wanted ⟨N, op, ty, pos, af, some (j, u)⟩ (yielded ops a.tmps) = false) (hT : rtab md ops = T) (hB : waitsOk T.2 B = true) (hc : takeW T B ds (upto n k).toList (upto n k').toList k = true) (hQ : ∀ c a w, Q (.panic c) (a.put N undef) w → Q (.panic c) a w) (hS : S w) (ha : a.put N undef = a') (h : wpAnyLast P md ops Q S ds fuel (upto n k') a' w) : wpAnyLast P md ops Q S ds (fuel + 1) (upto n k) a w :=
  take_ (v := undef) (upto n k') hi rfl (take_ofW hT hB hc) hQ (Or.inr ⟨hw, rfl⟩) hS ha h
theorem lit_fresh2 {e : TypeId} {W : World} {b0 : Nat} {ok : Nat → Prop} {v : Value} {xs : List S56} (h : Kd.R k56 e W b0 ok v xs) : some W.heap.size ≠ v.ownBlock := fun he => Nat.lt_irrefl _ (Kd.R_lt h _ he.symm)
theorem lit_below2 {W w1 : World} (hg : W.grownBy w1 none) : Below W.heap.size W w1 := (Below.refl W.heap.size W).grown hg (Nat.le_refl _) (fun _ h => nomatch h)
def farB (x : Int) : Bool := decide (0 ≤ x) && decide (x ≤ 1000000)
set_option maxHeartbeats 4000000 in
set_option maxRecDepth 100000 in
theorem far_at {x : Int} {b : Bool} (hb : farB x = b) (w : World) : Calls Try.prog 119 #[.int .i64 x] w fun e w' => e = .returned (.bool b) ∧ w' = w := by
  rw [← hb]
  unfold farB
  by_cases h0 : 0 ≤ x
  · have h0' : decide (x ≥ 0) = true := decide_eq_true h0
    by_cases h1 : x ≤ 1000000
    · have h1' : decide (x ≤ 1000000) = true := decide_eq_true h1
      go_enter Try.func119, Try.ntmps119
      go_wp2_with fail
      go_ret
      exact ⟨by simp [h0, h1], rfl⟩
    · have h1' : decide (x ≤ 1000000) = false := decide_eq_false h1
      go_enter Try.func119, Try.ntmps119
      go_wp2_with fail
      go_ret
      exact ⟨by simp [h0, h1], rfl⟩
  · have h0' : decide (x ≥ 0) = false := decide_eq_false h0
    go_enter Try.func119, Try.ntmps119
    go_wp2_with fail
    go_ret
    exact ⟨by simp [h0], rfl⟩
theorem far_yes {x : Int} (h : farB x = true) : 0 ≤ x ∧ x ≤ 1000000 := by unfold farB at h; simpa using h
theorem post_no {p a c len d : Int} (hp : 0 ≤ p) (h : ((decide (p ≤ a) && decide (a ≤ 1000000)) && (decide (0 ≤ c) && decide (c < len)) && (decide (d = 1) || decide (d = -1))) = false) :
    farB a = false ∨ (farB a = true ∧ decide (a < p) = true) ∨ (farB a = true ∧ decide (a < p) = false ∧ decide (c < 0) = true) ∨ (farB a = true ∧ decide (a < p) = false ∧ decide (c < 0) = false ∧ decide (c ≥ len) = true) ∨ (farB a = true ∧ decide (a < p) = false ∧ decide (c < 0) = false ∧ decide (c ≥ len) = false ∧ (d != 1) = true ∧ (d != -1) = true) := by
  cases hf : farB a
  · exact .inl rfl
  · refine .inr ?_
    have hf := far_yes hf
    by_cases h1 : a < p
    · exact .inl ⟨rfl, decide_eq_true h1⟩
    · refine .inr ?_
      by_cases h2 : c < 0
      · exact .inl ⟨rfl, decide_eq_false h1, decide_eq_true h2⟩
      · refine .inr ?_
        by_cases h3 : c ≥ len
        · exact .inl ⟨rfl, decide_eq_false h1, decide_eq_false h2, decide_eq_true h3⟩
        · refine .inr ⟨rfl, decide_eq_false h1, decide_eq_false h2, decide_eq_false h3, ?_⟩
          rw [decide_eq_true (show p ≤ a by omega), decide_eq_true hf.2, decide_eq_true (show 0 ≤ c by omega), decide_eq_true (show c < len by omega)] at h
          simp at h
          simp [h]
theorem post_yes {p a c len d : Int} (hp : 0 ≤ p) (h : ((decide (p ≤ a) && decide (a ≤ 1000000)) && (decide (0 ≤ c) && decide (c < len)) && (decide (d = 1) || decide (d = -1))) = true) :
    farB a = true ∧ decide (a < p) = false ∧ decide (c < 0) = false ∧ decide (c ≥ len) = false ∧ ((d != 1) = false ∨ ((d != 1) = true ∧ (d != -1) = false)) := by
  simp only [Bool.and_eq_true, Bool.or_eq_true, decide_eq_true_eq] at h
  obtain ⟨⟨⟨h1, h2⟩, h3, h4⟩, h5⟩ := h
  refine ⟨by unfold farB; simp; omega, decide_eq_false (by omega), decide_eq_false (by omega), decide_eq_false (by omega), ?_⟩
  rcases h5 with rfl | rfl
  · exact .inl rfl
  · exact .inr ⟨rfl, rfl⟩
theorem bad_to {fr tt : Int} (h0 : 0 ≤ fr) (h : (decide (0 ≤ tt) && decide (tt ≤ 1000000)) = false) : (decide (fr ≤ tt) && decide (tt ≤ 1000000)) = false := by
  by_cases h1 : fr ≤ tt
  · rw [decide_eq_true (show 0 ≤ tt by omega), Bool.true_and] at h
    rw [h, Bool.and_false]
  · rw [decide_eq_false h1]; rfl
theorem prevP_pos {l : List S88} {ps : List S143} : ∀ {i : Nat}, postsTo l ps i = true → 0 ≤ prevP ps i
  | 0, _ => Int.le_refl _
  | i + 1, h => (post_in h i (Nat.lt_succ_self i)).1
theorem prevA_pos {ax : List Int} : ∀ {i : Nat}, axlesTo ax i = true → 0 ≤ prevA ax i
  | 0, _ => Int.le_refl _
  | i + 1, h => (axle_in h i (Nat.lt_succ_self i)).1
theorem axle_no {p a : Int} (hp : 0 ≤ p) (h : (decide (p ≤ a) && decide (a ≤ 1000000)) = false) : farB a = false ∨ (farB a = true ∧ decide (a < p) = true) := by
  cases hf : farB a
  · exact .inl rfl
  · have hf := far_yes hf
    refine .inr ⟨rfl, ?_⟩
    by_cases h1 : a < p
    · exact decide_eq_true h1
    · rw [decide_eq_true (show p ≤ a by omega), decide_eq_true hf.2] at h
      cases h
theorem axle_yes {p a : Int} (hp : 0 ≤ p) (h : (decide (p ≤ a) && decide (a ≤ 1000000)) = true) : farB a = true ∧ decide (a < p) = false := by
  simp only [Bool.and_eq_true, decide_eq_true_eq] at h
  exact ⟨by unfold farB; simp; omega, decide_eq_false (by omega)⟩
section
variable {w : World} {base m c : Nat} {ok : Nat → Prop} {xs : List S154} {A : Option Addr}
theorem sort_any (h : Kd.R k154 146 w base ok (.slice A m c) xs) (hx : xs.Nodup) (hb : ∀ x ∈ xs, BdM x) (hl : xs.length ≤ 1000000) :
    Calls Try.prog 120 #[.slice A m c, .func (.func 121) #[] #[]] w fun e w' => e = .returned (.tuple #[]) ∧ Kd.R k154 146 w' base ok (.slice A m c) (sortM xs) ∧ w.grownBy w' (Value.slice A m c).ownBlock := by
  cases xs with
  | nil =>
    have hm : m = 0 := (Kd.R_reads' h).1
    subst hm
    refine (sort_none A c w).mono ?_
    rintro e w' ⟨rfl, rfl⟩
    exact ⟨rfl, h, World.grownBy.refl _ _⟩
  | cons x xs =>
    obtain ⟨g, cg, e, -⟩ := Kd.R_form h (by simp)
    have hm := (Kd.R_reads' h).1
    cases e
    exact sort_is h hx hb hl
end
set_option maxHeartbeats 32000000 in
set_option maxRecDepth 100000 in
theorem ipass_no0 (n : Int) (A : Option Addr) (c : Nat) (l : List S88) (A1 : Option Addr) (c1 : Nat) (ps : List S143) (A2 : Option Addr) (c2 : Nat) (ax : List Int) (fr tt : Int) (w : World) (hr : Kd.C k88 w A l.length l) (hc : l.length ≤ c) (hr1 : Kd.C k143 w A1 ps.length ps) (hc1 : ps.length ≤ c1) (hr2 : Kd.C (Kd.int .i64) w A2 ax.length ax) (hc2 : ax.length ≤ c2) (hp : ps.length ≤ 1048576) (ha : ax.length ≤ 1048576) (k0 : Int) (t0 : layoutOk n l = k0) (hk0 : (k0 != 0) = true) :
    Calls Try.prog 75 #[.agg #[.int .i64 n, .slice A l.length c], .slice A1 ps.length c1, .slice A2 ax.length c2, .int .i64 fr, .int .i64 tt] w fun e w' => ∃ v0_ : Value, e = .returned v0_ ∧ Kd.R k56 56 w' w.heap.size (fun _ => True) v0_ ([]) ∧ Below w.heap.size w w' := by
  have HR := Aside0.mk hr
  have HC := Aside0.mk hc
  have HR1 := Aside0.mk hr1
  have HC1 := Aside0.mk hc1
  have HR2 := Aside0.mk hr2
  have HC2 := Aside0.mk hc2
  have T0 := Aside0.mk t0
  clear hr hc hr1 hc1 hr2 hc2 t0
  go_enter Try.func75, Try.ntmps75
  go_upto_region 2 with ((with_reducible refine gate_dst (N := 5) rfl ?_); refine box_event ?hg (N := 5) ?hd (cs := #[.int .i64 n, .slice A l.length c]) (t := 30) ?hr ?_; (case hd => rfl); (case hg => rfl); (case hr => first | (go_simp; done) | (go_simp; rfl)); intro gl el wl kl bl; clear el; have KL := Aside0.mk kl; have BL := Aside0.mk bl; clear kl bl)
  have kl0 : wl.cell? ⟨gl, 0, none⟩ = some (.int .i64 n) := (blk_cell KL.out 0).trans rfl
  have kl1 : wl.cell? ⟨gl, 1, none⟩ = some (.slice A l.length c) := (blk_cell KL.out 1).trans rfl
  go_wp2_with (first | (go_at_call 25; refine (lay_at T0.out (Kd.C_below HR.out BL.out) HC.out).mono ?_; rintro e w1 ⟨rfl, hb⟩; have KL := Aside0.mk (blk_below KL.out hb); have BL := Aside0.mk (below_step BL.out hb); clear hb kl0 kl1))
  go_ret
  exact ⟨_, rfl, Kd.R_nil _ _ _ _ _, BL.out⟩
set_option maxHeartbeats 32000000 in
set_option maxRecDepth 100000 in
theorem ipass_no1 (n : Int) (A : Option Addr) (c : Nat) (l : List S88) (A1 : Option Addr) (c1 : Nat) (ps : List S143) (A2 : Option Addr) (c2 : Nat) (ax : List Int) (fr tt : Int) (w : World) (hr : Kd.C k88 w A l.length l) (hc : l.length ≤ c) (hr1 : Kd.C k143 w A1 ps.length ps) (hc1 : ps.length ≤ c1) (hr2 : Kd.C (Kd.int .i64) w A2 ax.length ax) (hc2 : ax.length ≤ c2) (hp : ps.length ≤ 1048576) (ha : ax.length ≤ 1048576) (t0 : layoutOk n l = 0) (t1 : 120 < ps.length) :
    Calls Try.prog 75 #[.agg #[.int .i64 n, .slice A l.length c], .slice A1 ps.length c1, .slice A2 ax.length c2, .int .i64 fr, .int .i64 tt] w fun e w' => ∃ v0_ : Value, e = .returned v0_ ∧ Kd.R k56 56 w' w.heap.size (fun _ => True) v0_ ([]) ∧ Below w.heap.size w w' := by
  have HR := Aside0.mk hr
  have HC := Aside0.mk hc
  have HR1 := Aside0.mk hr1
  have HC1 := Aside0.mk hc1
  have HR2 := Aside0.mk hr2
  have HC2 := Aside0.mk hc2
  have T0 := Aside0.mk t0
  clear hr hc hr1 hc1 hr2 hc2 t0
  have d1 : decide ((120 : Int) < (ps.length : Int)) = true := decide_eq_true (by omega)
  have d1' : decide ((ps.length : Int) > 120) = true := d1
  go_enter Try.func75, Try.ntmps75
  go_upto_region 2 with ((with_reducible refine gate_dst (N := 5) rfl ?_); refine box_event ?hg (N := 5) ?hd (cs := #[.int .i64 n, .slice A l.length c]) (t := 30) ?hr ?_; (case hd => rfl); (case hg => rfl); (case hr => first | (go_simp; done) | (go_simp; rfl)); intro gl el wl kl bl; clear el; have KL := Aside0.mk kl; have BL := Aside0.mk bl; clear kl bl)
  have kl0 : wl.cell? ⟨gl, 0, none⟩ = some (.int .i64 n) := (blk_cell KL.out 0).trans rfl
  have kl1 : wl.cell? ⟨gl, 1, none⟩ = some (.slice A l.length c) := (blk_cell KL.out 1).trans rfl
  go_wp2_with (first | (go_at_call 25; refine (lay_at T0.out (Kd.C_below HR.out BL.out) HC.out).mono ?_; rintro e w1 ⟨rfl, hb⟩; have KL := Aside0.mk (blk_below KL.out hb); have BL := Aside0.mk (below_step BL.out hb); clear hb kl0 kl1))
  go_ret
  exact ⟨_, rfl, Kd.R_nil _ _ _ _ _, BL.out⟩
set_option maxHeartbeats 32000000 in
set_option maxRecDepth 100000 in
theorem ipass_no2 (n : Int) (A : Option Addr) (c : Nat) (l : List S88) (A1 : Option Addr) (c1 : Nat) (ps : List S143) (A2 : Option Addr) (c2 : Nat) (ax : List Int) (fr tt : Int) (w : World) (hr : Kd.C k88 w A l.length l) (hc : l.length ≤ c) (hr1 : Kd.C k143 w A1 ps.length ps) (hc1 : ps.length ≤ c1) (hr2 : Kd.C (Kd.int .i64) w A2 ax.length ax) (hc2 : ax.length ≤ c2) (hp : ps.length ≤ 1048576) (ha : ax.length ≤ 1048576) (t0 : layoutOk n l = 0) (t1 : ps.length ≤ 120) (t2 : 200 < ax.length) :
    Calls Try.prog 75 #[.agg #[.int .i64 n, .slice A l.length c], .slice A1 ps.length c1, .slice A2 ax.length c2, .int .i64 fr, .int .i64 tt] w fun e w' => ∃ v0_ : Value, e = .returned v0_ ∧ Kd.R k56 56 w' w.heap.size (fun _ => True) v0_ ([]) ∧ Below w.heap.size w w' := by
  have HR := Aside0.mk hr
  have HC := Aside0.mk hc
  have HR1 := Aside0.mk hr1
  have HC1 := Aside0.mk hc1
  have HR2 := Aside0.mk hr2
  have HC2 := Aside0.mk hc2
  have T0 := Aside0.mk t0
  clear hr hc hr1 hc1 hr2 hc2 t0
  have d1 : decide ((120 : Int) < (ps.length : Int)) = false := decide_eq_false (by omega)
  have d1' : decide ((ps.length : Int) > 120) = false := d1
  have d2 : decide ((200 : Int) < (ax.length : Int)) = true := decide_eq_true (by omega)
  have d2' : decide ((ax.length : Int) > 200) = true := d2
  have P1 := Aside0.mk t1
  go_enter Try.func75, Try.ntmps75
  go_upto_region 2 with ((with_reducible refine gate_dst (N := 5) rfl ?_); refine box_event ?hg (N := 5) ?hd (cs := #[.int .i64 n, .slice A l.length c]) (t := 30) ?hr ?_; (case hd => rfl); (case hg => rfl); (case hr => first | (go_simp; done) | (go_simp; rfl)); intro gl el wl kl bl; clear el; have KL := Aside0.mk kl; have BL := Aside0.mk bl; clear kl bl)
  have kl0 : wl.cell? ⟨gl, 0, none⟩ = some (.int .i64 n) := (blk_cell KL.out 0).trans rfl
  have kl1 : wl.cell? ⟨gl, 1, none⟩ = some (.slice A l.length c) := (blk_cell KL.out 1).trans rfl
  go_wp2_with (first | (go_at_call 25; refine (lay_at T0.out (Kd.C_below HR.out BL.out) HC.out).mono ?_; rintro e w1 ⟨rfl, hb⟩; have KL := Aside0.mk (blk_below KL.out hb); have BL := Aside0.mk (below_step BL.out hb); clear hb kl0 kl1))
  go_ret
  exact ⟨_, rfl, Kd.R_nil _ _ _ _ _, BL.out⟩
set_option maxHeartbeats 32000000 in
set_option maxRecDepth 100000 in
theorem ipass_no3 (n : Int) (A : Option Addr) (c : Nat) (l : List S88) (A1 : Option Addr) (c1 : Nat) (ps : List S143) (A2 : Option Addr) (c2 : Nat) (ax : List Int) (fr tt : Int) (w : World) (hr : Kd.C k88 w A l.length l) (hc : l.length ≤ c) (hr1 : Kd.C k143 w A1 ps.length ps) (hc1 : ps.length ≤ c1) (hr2 : Kd.C (Kd.int .i64) w A2 ax.length ax) (hc2 : ax.length ≤ c2) (hp : ps.length ≤ 1048576) (ha : ax.length ≤ 1048576) (t0 : layoutOk n l = 0) (t1 : ps.length ≤ 120) (t2 : ax.length ≤ 200) (t3 : farB fr = false) :
    Calls Try.prog 75 #[.agg #[.int .i64 n, .slice A l.length c], .slice A1 ps.length c1, .slice A2 ax.length c2, .int .i64 fr, .int .i64 tt] w fun e w' => ∃ v0_ : Value, e = .returned v0_ ∧ Kd.R k56 56 w' w.heap.size (fun _ => True) v0_ ([]) ∧ Below w.heap.size w w' := by
  have HR := Aside0.mk hr
  have HC := Aside0.mk hc
  have HR1 := Aside0.mk hr1
  have HC1 := Aside0.mk hc1
  have HR2 := Aside0.mk hr2
  have HC2 := Aside0.mk hc2
  have T0 := Aside0.mk t0
  clear hr hc hr1 hc1 hr2 hc2 t0
  have d1 : decide ((120 : Int) < (ps.length : Int)) = false := decide_eq_false (by omega)
  have d1' : decide ((ps.length : Int) > 120) = false := d1
  have d2 : decide ((200 : Int) < (ax.length : Int)) = false := decide_eq_false (by omega)
  have d2' : decide ((ax.length : Int) > 200) = false := d2
  have T3 := Aside0.mk t3
  have P1 := Aside0.mk t1
  have P2 := Aside0.mk t2
  clear t3
  go_enter Try.func75, Try.ntmps75
  go_upto_region 2 with ((with_reducible refine gate_dst (N := 5) rfl ?_); refine box_event ?hg (N := 5) ?hd (cs := #[.int .i64 n, .slice A l.length c]) (t := 30) ?hr ?_; (case hd => rfl); (case hg => rfl); (case hr => first | (go_simp; done) | (go_simp; rfl)); intro gl el wl kl bl; clear el; have KL := Aside0.mk kl; have BL := Aside0.mk bl; clear kl bl)
  have kl0 : wl.cell? ⟨gl, 0, none⟩ = some (.int .i64 n) := (blk_cell KL.out 0).trans rfl
  have kl1 : wl.cell? ⟨gl, 1, none⟩ = some (.slice A l.length c) := (blk_cell KL.out 1).trans rfl
  go_wp2_with (first | (go_at_call 25; refine (lay_at T0.out (Kd.C_below HR.out BL.out) HC.out).mono ?_; rintro e w1 ⟨rfl, hb⟩; have KL := Aside0.mk (blk_below KL.out hb); have BL := Aside0.mk (below_step BL.out hb); clear hb kl0 kl1) | (go_at_call 119; (with_reducible refine (far_at T3.out _).mono ?_); rintro e wz ⟨rfl, hw⟩; obtain rfl := hw.symm))
  go_ret
  exact ⟨_, rfl, Kd.R_nil _ _ _ _ _, BL.out⟩
set_option maxHeartbeats 32000000 in
set_option maxRecDepth 100000 in
theorem ipass_no4 (n : Int) (A : Option Addr) (c : Nat) (l : List S88) (A1 : Option Addr) (c1 : Nat) (ps : List S143) (A2 : Option Addr) (c2 : Nat) (ax : List Int) (fr tt : Int) (w : World) (hr : Kd.C k88 w A l.length l) (hc : l.length ≤ c) (hr1 : Kd.C k143 w A1 ps.length ps) (hc1 : ps.length ≤ c1) (hr2 : Kd.C (Kd.int .i64) w A2 ax.length ax) (hc2 : ax.length ≤ c2) (hp : ps.length ≤ 1048576) (ha : ax.length ≤ 1048576) (t0 : layoutOk n l = 0) (t1 : ps.length ≤ 120) (t2 : ax.length ≤ 200) (t3 : farB fr = true) (t4 : farB tt = false) :
    Calls Try.prog 75 #[.agg #[.int .i64 n, .slice A l.length c], .slice A1 ps.length c1, .slice A2 ax.length c2, .int .i64 fr, .int .i64 tt] w fun e w' => ∃ v0_ : Value, e = .returned v0_ ∧ Kd.R k56 56 w' w.heap.size (fun _ => True) v0_ ([]) ∧ Below w.heap.size w w' := by
  have HR := Aside0.mk hr
  have HC := Aside0.mk hc
  have HR1 := Aside0.mk hr1
  have HC1 := Aside0.mk hc1
  have HR2 := Aside0.mk hr2
  have HC2 := Aside0.mk hc2
  have T0 := Aside0.mk t0
  clear hr hc hr1 hc1 hr2 hc2 t0
  have d1 : decide ((120 : Int) < (ps.length : Int)) = false := decide_eq_false (by omega)
  have d1' : decide ((ps.length : Int) > 120) = false := d1
  have d2 : decide ((200 : Int) < (ax.length : Int)) = false := decide_eq_false (by omega)
  have d2' : decide ((ax.length : Int) > 200) = false := d2
  have T3 := Aside0.mk t3
  have T4 := Aside0.mk t4
  have P1 := Aside0.mk t1
  have P2 := Aside0.mk t2
  clear t3 t4
  go_enter Try.func75, Try.ntmps75
  go_upto_region 2 with ((with_reducible refine gate_dst (N := 5) rfl ?_); refine box_event ?hg (N := 5) ?hd (cs := #[.int .i64 n, .slice A l.length c]) (t := 30) ?hr ?_; (case hd => rfl); (case hg => rfl); (case hr => first | (go_simp; done) | (go_simp; rfl)); intro gl el wl kl bl; clear el; have KL := Aside0.mk kl; have BL := Aside0.mk bl; clear kl bl)
  have kl0 : wl.cell? ⟨gl, 0, none⟩ = some (.int .i64 n) := (blk_cell KL.out 0).trans rfl
  have kl1 : wl.cell? ⟨gl, 1, none⟩ = some (.slice A l.length c) := (blk_cell KL.out 1).trans rfl
  go_wp2_with (first | (go_at_call 25; refine (lay_at T0.out (Kd.C_below HR.out BL.out) HC.out).mono ?_; rintro e w1 ⟨rfl, hb⟩; have KL := Aside0.mk (blk_below KL.out hb); have BL := Aside0.mk (below_step BL.out hb); clear hb kl0 kl1) | (go_at_call 119; (with_reducible refine (far_at T3.out _).mono ?_); rintro e wz ⟨rfl, hw⟩; obtain rfl := hw.symm) | (go_at_call 119; (with_reducible refine (far_at T4.out _).mono ?_); rintro e wz ⟨rfl, hw⟩; obtain rfl := hw.symm))
  go_ret
  exact ⟨_, rfl, Kd.R_nil _ _ _ _ _, BL.out⟩
set_option maxHeartbeats 32000000 in
set_option maxRecDepth 100000 in
theorem ipass_no5 (n : Int) (A : Option Addr) (c : Nat) (l : List S88) (A1 : Option Addr) (c1 : Nat) (ps : List S143) (A2 : Option Addr) (c2 : Nat) (ax : List Int) (fr tt : Int) (w : World) (hr : Kd.C k88 w A l.length l) (hc : l.length ≤ c) (hr1 : Kd.C k143 w A1 ps.length ps) (hc1 : ps.length ≤ c1) (hr2 : Kd.C (Kd.int .i64) w A2 ax.length ax) (hc2 : ax.length ≤ c2) (hp : ps.length ≤ 1048576) (ha : ax.length ≤ 1048576) (t0 : layoutOk n l = 0) (t1 : ps.length ≤ 120) (t2 : ax.length ≤ 200) (t3 : farB fr = true) (t4 : farB tt = true) (t5 : tt < fr) :
    Calls Try.prog 75 #[.agg #[.int .i64 n, .slice A l.length c], .slice A1 ps.length c1, .slice A2 ax.length c2, .int .i64 fr, .int .i64 tt] w fun e w' => ∃ v0_ : Value, e = .returned v0_ ∧ Kd.R k56 56 w' w.heap.size (fun _ => True) v0_ ([]) ∧ Below w.heap.size w w' := by
  have HR := Aside0.mk hr
  have HC := Aside0.mk hc
  have HR1 := Aside0.mk hr1
  have HC1 := Aside0.mk hc1
  have HR2 := Aside0.mk hr2
  have HC2 := Aside0.mk hc2
  have T0 := Aside0.mk t0
  clear hr hc hr1 hc1 hr2 hc2 t0
  have d1 : decide ((120 : Int) < (ps.length : Int)) = false := decide_eq_false (by omega)
  have d1' : decide ((ps.length : Int) > 120) = false := d1
  have d2 : decide ((200 : Int) < (ax.length : Int)) = false := decide_eq_false (by omega)
  have d2' : decide ((ax.length : Int) > 200) = false := d2
  have T3 := Aside0.mk t3
  have T4 := Aside0.mk t4
  have d5 : decide (tt < fr) = true := decide_eq_true (by omega)
  have T5 := Aside0.mk t5
  have P1 := Aside0.mk t1
  have P2 := Aside0.mk t2
  clear t3 t4 t5
  go_enter Try.func75, Try.ntmps75
  go_upto_region 2 with ((with_reducible refine gate_dst (N := 5) rfl ?_); refine box_event ?hg (N := 5) ?hd (cs := #[.int .i64 n, .slice A l.length c]) (t := 30) ?hr ?_; (case hd => rfl); (case hg => rfl); (case hr => first | (go_simp; done) | (go_simp; rfl)); intro gl el wl kl bl; clear el; have KL := Aside0.mk kl; have BL := Aside0.mk bl; clear kl bl)
  have kl0 : wl.cell? ⟨gl, 0, none⟩ = some (.int .i64 n) := (blk_cell KL.out 0).trans rfl
  have kl1 : wl.cell? ⟨gl, 1, none⟩ = some (.slice A l.length c) := (blk_cell KL.out 1).trans rfl
  go_wp2_with (first | (go_at_call 25; refine (lay_at T0.out (Kd.C_below HR.out BL.out) HC.out).mono ?_; rintro e w1 ⟨rfl, hb⟩; have KL := Aside0.mk (blk_below KL.out hb); have BL := Aside0.mk (below_step BL.out hb); clear hb kl0 kl1) | (go_at_call 119; (with_reducible refine (far_at T3.out _).mono ?_); rintro e wz ⟨rfl, hw⟩; obtain rfl := hw.symm) | (go_at_call 119; (with_reducible refine (far_at T4.out _).mono ?_); rintro e wz ⟨rfl, hw⟩; obtain rfl := hw.symm))
  go_ret
  exact ⟨_, rfl, Kd.R_nil _ _ _ _ _, BL.out⟩
set_option maxHeartbeats 32000000 in
set_option maxRecDepth 100000 in
theorem ipass_yes (n : Int) (A : Option Addr) (c : Nat) (l : List S88) (A1 : Option Addr) (c1 : Nat) (ps : List S143) (A2 : Option Addr) (c2 : Nat) (ax : List Int) (fr tt : Int) (w : World) (hr : Kd.C k88 w A l.length l) (hc : l.length ≤ c) (hr1 : Kd.C k143 w A1 ps.length ps) (hc1 : ps.length ≤ c1) (hr2 : Kd.C (Kd.int .i64) w A2 ax.length ax) (hc2 : ax.length ≤ c2) (hp : ps.length ≤ 1048576) (ha : ax.length ≤ 1048576) (t0 : layoutOk n l = 0) (t1 : ps.length ≤ 120) (t2 : ax.length ≤ 200) (t3 : farB fr = true) (t4 : farB tt = true) (t5 : fr ≤ tt) :
    Calls Try.prog 75 #[.agg #[.int .i64 n, .slice A l.length c], .slice A1 ps.length c1, .slice A2 ax.length c2, .int .i64 fr, .int .i64 tt] w fun e w' => ∃ v0_ : Value, e = .returned v0_ ∧ Kd.R k56 56 w' w.heap.size (fun _ => True) v0_ (if (postsTo l ps ps.length && axlesTo ax ax.length) = true then trainEvs ps ax fr tt else []) ∧ Below w.heap.size w w' := by
  have HR := Aside0.mk hr
  have HC := Aside0.mk hc
  have HR1 := Aside0.mk hr1
  have HC1 := Aside0.mk hc1
  have HR2 := Aside0.mk hr2
  have HC2 := Aside0.mk hc2
  have T0 := Aside0.mk t0
  clear hr hc hr1 hc1 hr2 hc2 t0
  have d1 : decide ((120 : Int) < (ps.length : Int)) = false := decide_eq_false (by omega)
  have d1' : decide ((ps.length : Int) > 120) = false := d1
  have d2 : decide ((200 : Int) < (ax.length : Int)) = false := decide_eq_false (by omega)
  have d2' : decide ((ax.length : Int) > 200) = false := d2
  have T3 := Aside0.mk t3
  have T4 := Aside0.mk t4
  have d5 : decide (tt < fr) = false := decide_eq_false (by omega)
  have T5 := Aside0.mk t5
  have P1 := Aside0.mk t1
  have P2 := Aside0.mk t2
  clear t3 t4 t5
  obtain ⟨res, hres⟩ : ∃ res, res = (if (postsTo l ps ps.length && axlesTo ax ax.length) = true then trainEvs ps ax fr tt else []) := ⟨_, rfl⟩
  rw [← hres]
  have RES := Aside0.mk hres
  clear hres
  go_enter Try.func75, Try.ntmps75
  go_upto_region 2 with ((with_reducible refine gate_dst (N := 5) rfl ?_); refine box_event ?hg (N := 5) ?hd (cs := #[.int .i64 n, .slice A l.length c]) (t := 30) ?hr ?_; (case hd => rfl); (case hg => rfl); (case hr => first | (go_simp; done) | (go_simp; rfl)); intro gl el wl kl bl; clear el; have KL := Aside0.mk kl; have BL := Aside0.mk bl; clear kl bl)
  have kl0 : wl.cell? ⟨gl, 0, none⟩ = some (.int .i64 n) := (blk_cell KL.out 0).trans rfl
  have kl1 : wl.cell? ⟨gl, 1, none⟩ = some (.slice A l.length c) := (blk_cell KL.out 1).trans rfl
  go_upto_region 4 with (first | (go_at_call 25; refine (lay_at T0.out (Kd.C_below HR.out BL.out) HC.out).mono ?_; rintro e w1 ⟨rfl, hb⟩; have KL := Aside0.mk (blk_below KL.out hb); have BL := Aside0.mk (below_step BL.out hb); clear hb kl0 kl1) | (go_at_call 119; (with_reducible refine (far_at T3.out _).mono ?_); rintro e wz ⟨rfl, hw⟩; obtain rfl := hw.symm) | (go_at_call 119; (with_reducible refine (far_at T4.out _).mono ?_); rintro e wz ⟨rfl, hw⟩; obtain rfl := hw.symm))
  have HR1 := Aside0.mk (Kd.C_below HR1.out BL.out)
  have HR2 := Aside0.mk (Kd.C_below HR2.out BL.out)
  clear d1 d1' d2 d2' d5
  go_wp2_with fail
  go_loopg [57] ps.length (fun kq v57 w' => ∃ i : Nat, v57 = .int .i64 i ∧ Aside0 (i + kq = ps.length) ∧ Aside0 (postsTo l ps i = true) ∧ Aside0 (Below w1.heap.size w1 w'))
  case atStart => exact ⟨0, rfl, ⟨by omega⟩, ⟨rfl⟩, ⟨Below.refl _ _⟩⟩
  case round =>
    obtain ⟨i, rfl, HI, HT, HB⟩ := hrel
    by_cases hlt : i < ps.length
    · cases gk with
      | zero => exact absurd HI.out (by omega)
      | succ go1 =>
      have hlt' : decide ((i : Int) < (ps.length : Int)) = true := decide_eq_true (by omega)
      have q0 : (0 : Int) ≤ (i : Int) := by omega
      obtain ⟨adp, e, x0, x1, x2⟩ := at_T143 HR1.out (i : Int) q0 (by omega)
      cases e
      rw [Int.toNat_natCast] at x0 x1 x2
      have HPV := Aside0.mk (prevP_pos HT.out)
      have HPA := Aside0.mk (show postAt l ps i = ((decide (prevP ps i ≤ (rd_T143 ps (i : Int)).f0) && decide ((rd_T143 ps (i : Int)).f0 ≤ 1000000)) && (decide (0 ≤ (rd_T143 ps (i : Int)).f1) && decide ((rd_T143 ps (i : Int)).f1 < (l.length : Int))) && (decide ((rd_T143 ps (i : Int)).f2 = 1) || decide ((rd_T143 ps (i : Int)).f2 = -1))) from rfl)
      have HS := Aside0.mk (show postsTo l ps (i + 1) = (postsTo l ps i && postAt l ps i) from rfl)
      have HF := Aside0.mk (fun (h : postAt l ps i = false) => (show postsTo l ps ps.length = false from by
        have e1 : postsTo l ps (i + 1) = false := by rw [HS.out, h, Bool.and_false]
        have h2 := postsTo_false e1 go1
        rwa [show i + 1 + go1 = ps.length by have := HI.out; omega] at h2))
      generalize rd_T143 ps (i : Int) = x at x0 x1 x2 HPA
      replace x0 := pw_cell_below HB.out x0
      replace x1 := pw_cell_below HB.out x1
      replace x2 := pw_cell_below HB.out x2
      go_upto_region 7 with ((with_reducible refine gate_dst (N := 13) rfl ?_); refine box_event ?hg (N := 13) ?hd (cs := #[.int .i64 0, .int .i64 0, .int .i64 0]) (t := 143) ?hr ?_; (case hd => rfl); (case hg => rfl); (case hr => first | (go_simp; done) | (go_simp; rfl)); intro gx ex wx kx bx; have EX := Aside0.mk ex; have KX := Aside0.mk kx; have BX := Aside0.mk bx; clear ex kx bx; have kx0 : wx.cell? ⟨gx, 0, none⟩ = some (.int .i64 0) := (blk_cell KX.out 0).trans rfl; have zkx0 := blk_frozen KX.out 0; have kx1 : wx.cell? ⟨gx, 1, none⟩ = some (.int .i64 0) := (blk_cell KX.out 1).trans rfl; have zkx1 := blk_frozen KX.out 1; have kx2 : wx.cell? ⟨gx, 2, none⟩ = some (.int .i64 0) := (blk_cell KX.out 2).trans rfl; have zkx2 := blk_frozen KX.out 2)
      have FX := Aside0.mk (fill3t (y0 := .int .i64 x.f0) (y1 := .int .i64 x.f1) (y2 := .int .i64 x.f2) KX.out BX.out (Nat.le_of_eq EX.out.symm))
      clear kx0 zkx0 kx1 zkx1 kx2 zkx2 KX BX EX x0 x1 x2
      generalize (((wx.setCell ⟨gx, 0, none⟩ (.int .i64 x.f0)).setCell ⟨gx, 1, none⟩ (.int .i64 x.f1)).setCell ⟨gx, 2, none⟩ (.int .i64 x.f2)) = w6 at FX ⊢
      have HB := Aside0.mk (below_drew1 (below_step HB.out FX.out.1))
      have KX := Aside0.mk (blk_drew FX.out.2)
      clear FX
      have kx0 : w6.drew.cell? ⟨gx, 0, none⟩ = some (.int .i64 x.f0) := (blk_cell KX.out 0).trans rfl
      have kx1 : w6.drew.cell? ⟨gx, 1, none⟩ = some (.int .i64 x.f1) := (blk_cell KX.out 1).trans rfl
      have kx2 : w6.drew.cell? ⟨gx, 2, none⟩ = some (.int .i64 x.f2) := (blk_cell KX.out 2).trans rfl
      have kl1 : w6.drew.cell? ⟨gl, 1, none⟩ = some (.slice A l.length c) := (blk_cell (blk_below KL.out HB.out) 1).trans rfl
      have W1 := Aside0.mk (show wrap64 ((i : Int) + 1) = ((i + 1 : Nat) : Int) from (wrap_id (by omega) (by have := P1.out; omega)).trans (by omega))
      by_cases hi0 : i = 0
      · have hgt : ¬ 0 < i := by omega
        have hgt' : decide ((i : Int) > 0) = false := decide_eq_false (by omega)
        have HI0 := Aside0.mk hi0
        clear hi0
        cases hpe : postAt l ps i
        · have HPE := Aside0.mk hpe
          clear hpe
          have hway := post_no HPV.out (HPA.out.symm.trans HPE.out)
          rcases hway with hfb | ⟨hfb, h1⟩ | ⟨hfb, h1, h2⟩ | ⟨hfb, h1, h2, h3⟩ | ⟨hfb, h1, h2, h3, h4, h5⟩
          rotate_left
          · exact absurd (far_yes hfb).1 (by rw [HI0.out] at h1; have h1 : x.f0 < 0 := of_decide_eq_true h1; omega)
          all_goals
            refine startK 43 (S := fun w' => w'.cell? ⟨gx, 0, none⟩ = some (.int .i64 x.f0) ∧ w'.cell? ⟨gx, 1, none⟩ = some (.int .i64 x.f1) ∧ w'.cell? ⟨gx, 2, none⟩ = some (.int .i64 x.f2) ∧ w'.cell? ⟨gl, 1, none⟩ = some (.slice A l.length c)) (ds := []) (by kernel_rfl) rfl ⟨kx0, kx1, kx2, kl1⟩ (fun hHeld => ?_)
            refine with_tabW ip_tab7 ip_bits7 (fun HT_ HW_ => ?_)
            repeat (first
              | (refine take0 (v := ?_) (a' := ?_) (by simp only [Nat.reduceAdd]; rfl) (by rfl) HT_.out HW_.out (by kernel_rfl) (by exact fun _ _ _ h => h) hHeld ?_ ?_ ?_; rotate_left 2; (· rintro w' ⟨s0, s1, s2, s3⟩; go_simp; with_reducible rfl); (· simp only [Act.put, List.setIfInBounds_toArray, List.set_cons_zero, List.set_cons_succ, i64_w, i32_w]; rfl))
              | (refine takeG (v := ?_) (a' := ?_) (by simp only [Nat.reduceAdd]; rfl) (by rfl) (by rfl) HT_.out HW_.out (by kernel_rfl) (by exact fun _ _ _ h => h) hHeld ?_ ?_ ?_; rotate_left 2; (· first | (rw [if_neg (by decide)]; done) | (rw [if_pos (by decide)]; rintro w' ⟨s0, s1, s2, s3⟩; go_simp; with_reducible rfl)); (· simp only [Act.put, List.setIfInBounds_toArray, List.set_cons_zero, List.set_cons_succ, i64_w, i32_w]; rfl))
              | (refine takeU (a' := ?_) (by simp only [Nat.reduceAdd]; rfl) (by rfl) (by rfl) HT_.out HW_.out (by kernel_rfl) (by exact fun _ _ _ h => h) hHeld ?_ ?_; rotate_left; (· simp only [Act.put, List.setIfInBounds_toArray, List.set_cons_zero, List.set_cons_succ, i64_w, i32_w]; rfl))
              | (refine oneK (by simp only [Nat.reduceAdd]; rfl) (by rfl) HT_.out (by kernel_rfl) (by decide) (fun K hK => ?_); refine goesV_ Try.func119 (by kernel_rfl) rfl #[.int .i64 x.f0] (by rfl) rfl rfl (by rfl) (by (try simp only [List.map_toArray, List.map_cons, List.map_nil]); first | done | rfl) ?_; ((with_reducible refine (far_at hfb _).mono ?_); rintro e w' ⟨rfl, rfl⟩); refine ⟨_, rfl, ?_⟩; refine hK.out _ _ hHeld (fun hHeld => ?_); clear hK K; refine norm_ (a' := ?_) ?_ ?_; rotate_left; · simp only [Act.put, List.setIfInBounds_toArray, List.set_cons_zero, List.set_cons_succ, i64_w, i32_w]; rfl))
            refine done_ (done_of HT_.out (by kernel_rfl)) ?_
            go_wp2_with fail
            go_ret
            exact ⟨_, rfl, by rw [RES.out, if_neg (by simp [HF.out HPE.out])]; exact Kd.R_nil _ _ _ _ _, below_step BL.out HB.out⟩
        · have HPE := Aside0.mk hpe
          clear hpe
          obtain ⟨hfb, h1, h2, h3, hd⟩ := post_yes HPV.out (HPA.out.symm.trans HPE.out)
          rcases hd with h4 | ⟨h4, h5⟩
          all_goals
            refine startK 43 (S := fun w' => w'.cell? ⟨gx, 0, none⟩ = some (.int .i64 x.f0) ∧ w'.cell? ⟨gx, 1, none⟩ = some (.int .i64 x.f1) ∧ w'.cell? ⟨gx, 2, none⟩ = some (.int .i64 x.f2) ∧ w'.cell? ⟨gl, 1, none⟩ = some (.slice A l.length c)) (ds := []) (by kernel_rfl) rfl ⟨kx0, kx1, kx2, kl1⟩ (fun hHeld => ?_)
            refine with_tabW ip_tab7 ip_bits7 (fun HT_ HW_ => ?_)
            repeat (first
              | (refine take0 (v := ?_) (a' := ?_) (by simp only [Nat.reduceAdd]; rfl) (by rfl) HT_.out HW_.out (by kernel_rfl) (by exact fun _ _ _ h => h) hHeld ?_ ?_ ?_; rotate_left 2; (· rintro w' ⟨s0, s1, s2, s3⟩; go_simp; with_reducible rfl); (· simp only [Act.put, List.setIfInBounds_toArray, List.set_cons_zero, List.set_cons_succ, i64_w, i32_w]; rfl))
              | (refine takeG (v := ?_) (a' := ?_) (by simp only [Nat.reduceAdd]; rfl) (by rfl) (by rfl) HT_.out HW_.out (by kernel_rfl) (by exact fun _ _ _ h => h) hHeld ?_ ?_ ?_; rotate_left 2; (· first | (rw [if_neg (by decide)]; done) | (rw [if_pos (by decide)]; rintro w' ⟨s0, s1, s2, s3⟩; go_simp; with_reducible rfl)); (· simp only [Act.put, List.setIfInBounds_toArray, List.set_cons_zero, List.set_cons_succ, i64_w, i32_w]; rfl))
              | (refine takeU (a' := ?_) (by simp only [Nat.reduceAdd]; rfl) (by rfl) (by rfl) HT_.out HW_.out (by kernel_rfl) (by exact fun _ _ _ h => h) hHeld ?_ ?_; rotate_left; (· simp only [Act.put, List.setIfInBounds_toArray, List.set_cons_zero, List.set_cons_succ, i64_w, i32_w]; rfl))
              | (refine oneK (by simp only [Nat.reduceAdd]; rfl) (by rfl) HT_.out (by kernel_rfl) (by decide) (fun K hK => ?_); refine goesV_ Try.func119 (by kernel_rfl) rfl #[.int .i64 x.f0] (by rfl) rfl rfl (by rfl) (by (try simp only [List.map_toArray, List.map_cons, List.map_nil]); first | done | rfl) ?_; ((with_reducible refine (far_at hfb _).mono ?_); rintro e w' ⟨rfl, rfl⟩); refine ⟨_, rfl, ?_⟩; refine hK.out _ _ hHeld (fun hHeld => ?_); clear hK K; refine norm_ (a' := ?_) ?_ ?_; rotate_left; · simp only [Act.put, List.setIfInBounds_toArray, List.set_cons_zero, List.set_cons_succ, i64_w, i32_w]; rfl))
            refine done_ (done_of HT_.out (by kernel_rfl)) ?_
            go_wp2_with fail
            go_roundg go1
            case measure => omega
            case rel => exact ⟨i + 1, congrArg (Value.int .i64) (by first | exact W1.out | omega), ⟨by have := HI.out; omega⟩, ⟨by rw [HS.out, HT.out, HPE.out]; rfl⟩, HB⟩
      · obtain ⟨j, hj⟩ : ∃ j, i = j + 1 := ⟨i - 1, by omega⟩
        have hgt : 0 < i := by omega
        have hgt' : decide ((i : Int) > 0) = true := decide_eq_true (by omega)
        have hw : wrap64 ((i : Int) - 1) = (j : Int) := (wrap_id (by omega) (by have := P1.out; omega)).trans (by omega)
        have hw' : IntKind.i64.wrap ((i : Int) - 1) = (j : Int) := (i64_w _).trans hw
        have hjl : j < ps.length := by omega
        have j0 : (0 : Int) ≤ (j : Int) := by omega
        have j1 : decide ((j : Int) < (ps.length : Int)) = true := decide_eq_true (by omega)
        obtain ⟨adq, e, y0, -, -⟩ := at_T143 HR1.out (j : Int) j0 (by omega)
        cases e
        rw [Int.toNat_natCast] at y0
        have hpv : prevP ps i = (rd_T143 ps (j : Int)).f0 := by rw [hj]; rfl
        rw [hpv] at HPV HPA
        generalize (rd_T143 ps (j : Int)).f0 = pv at y0 HPV HPA
        replace y0 := pw_cell_below HB.out y0
        clear hpv hj hi0
        cases hpe : postAt l ps i
        · have HPE := Aside0.mk hpe
          clear hpe
          have hway := post_no HPV.out (HPA.out.symm.trans HPE.out)
          rcases hway with hfb | ⟨hfb, h1⟩ | ⟨hfb, h1, h2⟩ | ⟨hfb, h1, h2, h3⟩ | ⟨hfb, h1, h2, h3, h4, h5⟩
          all_goals
            refine startK 43 (S := fun w' => w'.cell? ⟨gx, 0, none⟩ = some (.int .i64 x.f0) ∧ w'.cell? ⟨gx, 1, none⟩ = some (.int .i64 x.f1) ∧ w'.cell? ⟨gx, 2, none⟩ = some (.int .i64 x.f2) ∧ w'.cell? ⟨gl, 1, none⟩ = some (.slice A l.length c) ∧ w'.cell? (adp.add (j * 3)) = some (.int .i64 pv)) (ds := []) (by kernel_rfl) rfl ⟨kx0, kx1, kx2, kl1, y0⟩ (fun hHeld => ?_)
            refine with_tabW ip_tab7 ip_bits7 (fun HT_ HW_ => ?_)
            repeat (first
              | (refine take0 (v := ?_) (a' := ?_) (by simp only [Nat.reduceAdd]; rfl) (by rfl) HT_.out HW_.out (by kernel_rfl) (by exact fun _ _ _ h => h) hHeld ?_ ?_ ?_; rotate_left 2; (· rintro w' ⟨s0, s1, s2, s3, s4⟩; go_simp; with_reducible rfl); (· simp only [Act.put, List.setIfInBounds_toArray, List.set_cons_zero, List.set_cons_succ, i64_w, i32_w]; rfl))
              | (refine takeG (v := ?_) (a' := ?_) (by simp only [Nat.reduceAdd]; rfl) (by rfl) (by rfl) HT_.out HW_.out (by kernel_rfl) (by exact fun _ _ _ h => h) hHeld ?_ ?_ ?_; rotate_left 2; (· first | (rw [if_neg (by decide)]; done) | (rw [if_pos (by decide)]; rintro w' ⟨s0, s1, s2, s3, s4⟩; go_simp; with_reducible rfl)); (· simp only [Act.put, List.setIfInBounds_toArray, List.set_cons_zero, List.set_cons_succ, i64_w, i32_w]; rfl))
              | (refine takeU (a' := ?_) (by simp only [Nat.reduceAdd]; rfl) (by rfl) (by rfl) HT_.out HW_.out (by kernel_rfl) (by exact fun _ _ _ h => h) hHeld ?_ ?_; rotate_left; (· simp only [Act.put, List.setIfInBounds_toArray, List.set_cons_zero, List.set_cons_succ, i64_w, i32_w]; rfl))
              | (refine oneK (by simp only [Nat.reduceAdd]; rfl) (by rfl) HT_.out (by kernel_rfl) (by decide) (fun K hK => ?_); refine goesV_ Try.func119 (by kernel_rfl) rfl #[.int .i64 x.f0] (by rfl) rfl rfl (by rfl) (by (try simp only [List.map_toArray, List.map_cons, List.map_nil]); first | done | rfl) ?_; ((with_reducible refine (far_at hfb _).mono ?_); rintro e w' ⟨rfl, rfl⟩); refine ⟨_, rfl, ?_⟩; refine hK.out _ _ hHeld (fun hHeld => ?_); clear hK K; refine norm_ (a' := ?_) ?_ ?_; rotate_left; · simp only [Act.put, List.setIfInBounds_toArray, List.set_cons_zero, List.set_cons_succ, i64_w, i32_w]; rfl))
            refine done_ (done_of HT_.out (by kernel_rfl)) ?_
            go_wp2_with fail
            go_ret
            exact ⟨_, rfl, by rw [RES.out, if_neg (by simp [HF.out HPE.out])]; exact Kd.R_nil _ _ _ _ _, below_step BL.out HB.out⟩
        · have HPE := Aside0.mk hpe
          clear hpe
          obtain ⟨hfb, h1, h2, h3, hd⟩ := post_yes HPV.out (HPA.out.symm.trans HPE.out)
          rcases hd with h4 | ⟨h4, h5⟩
          all_goals
            refine startK 43 (S := fun w' => w'.cell? ⟨gx, 0, none⟩ = some (.int .i64 x.f0) ∧ w'.cell? ⟨gx, 1, none⟩ = some (.int .i64 x.f1) ∧ w'.cell? ⟨gx, 2, none⟩ = some (.int .i64 x.f2) ∧ w'.cell? ⟨gl, 1, none⟩ = some (.slice A l.length c) ∧ w'.cell? (adp.add (j * 3)) = some (.int .i64 pv)) (ds := []) (by kernel_rfl) rfl ⟨kx0, kx1, kx2, kl1, y0⟩ (fun hHeld => ?_)
            refine with_tabW ip_tab7 ip_bits7 (fun HT_ HW_ => ?_)
            repeat (first
              | (refine take0 (v := ?_) (a' := ?_) (by simp only [Nat.reduceAdd]; rfl) (by rfl) HT_.out HW_.out (by kernel_rfl) (by exact fun _ _ _ h => h) hHeld ?_ ?_ ?_; rotate_left 2; (· rintro w' ⟨s0, s1, s2, s3, s4⟩; go_simp; with_reducible rfl); (· simp only [Act.put, List.setIfInBounds_toArray, List.set_cons_zero, List.set_cons_succ, i64_w, i32_w]; rfl))
              | (refine takeG (v := ?_) (a' := ?_) (by simp only [Nat.reduceAdd]; rfl) (by rfl) (by rfl) HT_.out HW_.out (by kernel_rfl) (by exact fun _ _ _ h => h) hHeld ?_ ?_ ?_; rotate_left 2; (· first | (rw [if_neg (by decide)]; done) | (rw [if_pos (by decide)]; rintro w' ⟨s0, s1, s2, s3, s4⟩; go_simp; with_reducible rfl)); (· simp only [Act.put, List.setIfInBounds_toArray, List.set_cons_zero, List.set_cons_succ, i64_w, i32_w]; rfl))
              | (refine takeU (a' := ?_) (by simp only [Nat.reduceAdd]; rfl) (by rfl) (by rfl) HT_.out HW_.out (by kernel_rfl) (by exact fun _ _ _ h => h) hHeld ?_ ?_; rotate_left; (· simp only [Act.put, List.setIfInBounds_toArray, List.set_cons_zero, List.set_cons_succ, i64_w, i32_w]; rfl))
              | (refine oneK (by simp only [Nat.reduceAdd]; rfl) (by rfl) HT_.out (by kernel_rfl) (by decide) (fun K hK => ?_); refine goesV_ Try.func119 (by kernel_rfl) rfl #[.int .i64 x.f0] (by rfl) rfl rfl (by rfl) (by (try simp only [List.map_toArray, List.map_cons, List.map_nil]); first | done | rfl) ?_; ((with_reducible refine (far_at hfb _).mono ?_); rintro e w' ⟨rfl, rfl⟩); refine ⟨_, rfl, ?_⟩; refine hK.out _ _ hHeld (fun hHeld => ?_); clear hK K; refine norm_ (a' := ?_) ?_ ?_; rotate_left; · simp only [Act.put, List.setIfInBounds_toArray, List.set_cons_zero, List.set_cons_succ, i64_w, i32_w]; rfl))
            refine done_ (done_of HT_.out (by kernel_rfl)) ?_
            go_wp2_with fail
            go_roundg go1
            case measure => omega
            case rel => exact ⟨i + 1, congrArg (Value.int .i64) (by first | exact W1.out | omega), ⟨by have := HI.out; omega⟩, ⟨by rw [HS.out, HT.out, HPE.out]; rfl⟩, HB⟩
    · have hlt' : decide ((i : Int) < (ps.length : Int)) = false := decide_eq_false (by omega)
      have hi : i = ps.length := by have := HI.out; omega
      have HPT := Aside0.mk (show postsTo l ps ps.length = true by rw [← hi]; exact HT.out)
      clear hi HT
      go_wp2_with fail
      go_loopg [108] ax.length (fun kq v108 w' => ∃ i : Nat, v108 = .int .i64 i ∧ Aside0 (i + kq = ax.length) ∧ Aside0 (axlesTo ax i = true) ∧ Aside0 (Below w1.heap.size w1 w'))
      case atStart => exact ⟨0, rfl, ⟨by omega⟩, ⟨rfl⟩, HB⟩
      case round =>
        clear HB
        obtain ⟨i, rfl, HI, HT, HB⟩ := hrel
        by_cases hat : i < ax.length
        · cases gk with
          | zero => exact absurd HI.out (by omega)
          | succ go1 =>
          have hat' : decide ((i : Int) < (ax.length : Int)) = true := decide_eq_true (by omega)
          have q0 : (0 : Int) ≤ (i : Int) := by omega
          obtain ⟨ada, e, -⟩ := HR2.out.2.2 (by omega)
          subst e
          have yv := Kd.foot_int HR2.out (i : Int) q0 (by omega)
          rw [Int.toNat_natCast] at yv
          have HPV := Aside0.mk (prevA_pos HT.out)
          have HPA := Aside0.mk (show axleAt ax i = (decide (prevA ax i ≤ rd ax (i : Int)) && decide (rd ax (i : Int) ≤ 1000000)) from rfl)
          have HS := Aside0.mk (show axlesTo ax (i + 1) = (axlesTo ax i && axleAt ax i) from rfl)
          have HF := Aside0.mk (fun (h : axleAt ax i = false) => (show axlesTo ax ax.length = false from by
            have e1 : axlesTo ax (i + 1) = false := by rw [HS.out, h, Bool.and_false]
            have h2 := axlesTo_false e1 go1
            rwa [show i + 1 + go1 = ax.length by have := HI.out; omega] at h2))
          generalize rd ax (i : Int) = ai at yv HPA
          replace yv := pw_cell_below HB.out yv
          have W1 := Aside0.mk (show wrap64 ((i : Int) + 1) = ((i + 1 : Nat) : Int) from (wrap_id (by omega) (by have := P2.out; omega)).trans (by omega))
          by_cases hi0 : i = 0
          · have hgt : ¬ 0 < i := by omega
            have hgt' : decide ((i : Int) > 0) = false := decide_eq_false (by omega)
            have HI0 := Aside0.mk hi0
            clear hi0
            cases hpe : axleAt ax i
            · have HPE := Aside0.mk hpe
              clear hpe
              have hway := axle_no HPV.out (HPA.out.symm.trans HPE.out)
              rcases hway with hfb | ⟨hfb, h1⟩
              rotate_left
              · exact absurd (far_yes hfb).1 (by rw [HI0.out] at h1; have h1 : ai < 0 := of_decide_eq_true h1; omega)
              all_goals
                go_wp2_with (go_at_call 119; (with_reducible refine (far_at hfb _).mono ?_); rintro e wz ⟨rfl, hw_⟩; obtain rfl := hw_.symm)
                go_ret
                exact ⟨_, rfl, by rw [RES.out, if_neg (by simp [HF.out HPE.out])]; exact Kd.R_nil _ _ _ _ _, below_step BL.out HB.out⟩
            · have HPE := Aside0.mk hpe
              clear hpe
              obtain ⟨hfb, h1⟩ := axle_yes HPV.out (HPA.out.symm.trans HPE.out)
              go_wp2_with (go_at_call 119; (with_reducible refine (far_at hfb _).mono ?_); rintro e wz ⟨rfl, hw_⟩; obtain rfl := hw_.symm)
              go_roundg go1
              case measure => omega
              case rel => exact ⟨i + 1, congrArg (Value.int .i64) (by first | exact W1.out | omega), ⟨by have := HI.out; omega⟩, ⟨by rw [HS.out, HT.out, HPE.out]; rfl⟩, HB⟩
          · obtain ⟨j, hj⟩ : ∃ j, i = j + 1 := ⟨i - 1, by omega⟩
            have hgt : 0 < i := by omega
            have hgt' : decide ((i : Int) > 0) = true := decide_eq_true (by omega)
            have hw : wrap64 ((i : Int) - 1) = (j : Int) := (wrap_id (by omega) (by have := P2.out; omega)).trans (by omega)
            have hw' : IntKind.i64.wrap ((i : Int) - 1) = (j : Int) := (i64_w _).trans hw
            have hjl : j < ax.length := by omega
            have j0 : (0 : Int) ≤ (j : Int) := by omega
            have j1 : decide ((j : Int) < (ax.length : Int)) = true := decide_eq_true (by omega)
            have y0 := Kd.foot_int HR2.out (j : Int) j0 (by omega)
            rw [Int.toNat_natCast] at y0
            have hpv : prevA ax i = rd ax (j : Int) := by rw [hj]; rfl
            rw [hpv] at HPV HPA
            generalize rd ax (j : Int) = pv at y0 HPV HPA
            replace y0 := pw_cell_below HB.out y0
            clear hpv hj hi0
            cases hpe : axleAt ax i
            · have HPE := Aside0.mk hpe
              clear hpe
              have hway := axle_no HPV.out (HPA.out.symm.trans HPE.out)
              rcases hway with hfb | ⟨hfb, h1⟩
              all_goals
                go_wp2_with (go_at_call 119; (with_reducible refine (far_at hfb _).mono ?_); rintro e wz ⟨rfl, hw_⟩; obtain rfl := hw_.symm)
                go_ret
                exact ⟨_, rfl, by rw [RES.out, if_neg (by simp [HF.out HPE.out])]; exact Kd.R_nil _ _ _ _ _, below_step BL.out HB.out⟩
            · have HPE := Aside0.mk hpe
              clear hpe
              obtain ⟨hfb, h1⟩ := axle_yes HPV.out (HPA.out.symm.trans HPE.out)
              go_wp2_with (go_at_call 119; (with_reducible refine (far_at hfb _).mono ?_); rintro e wz ⟨rfl, hw_⟩; obtain rfl := hw_.symm)
              go_roundg go1
              case measure => omega
              case rel => exact ⟨i + 1, congrArg (Value.int .i64) (by first | exact W1.out | omega), ⟨by have := HI.out; omega⟩, ⟨by rw [HS.out, HT.out, HPE.out]; rfl⟩, HB⟩
        · have hat' : decide ((i : Int) < (ax.length : Int)) = false := decide_eq_false (by omega)
          have hi : i = ax.length := by have := HI.out; omega
          have HAT := Aside0.mk (show axlesTo ax ax.length = true by rw [← hi]; exact HT.out)
          clear hi HT
          have RES := Aside0.mk (show res = trainEvs ps ax fr tt by rw [RES.out, HPT.out, HAT.out]; rfl)
          go_wp2_with fail
          go_loopg [16, 133] ax.length (fun kq v16 v133 w' => ∃ i : Nat, v133 = .int .i64 i ∧ Aside0 (i + kq = ax.length) ∧ Aside0 (Kd.R k154 146 w' w1.heap.size (fun _ => True) v16 (metTo ps ax fr tt i)) ∧ Aside0 (Below w1.heap.size w1 w'))
          case atStart => exact ⟨0, rfl, ⟨by omega⟩, ⟨Kd.R_nil _ _ _ _ _⟩, HB⟩
          case round =>
            clear HB
            obtain ⟨i, rfl, HI, HO, HB⟩ := hrel
            by_cases hit : i < ax.length
            · cases gk with
              | zero => exact absurd HI.out (by omega)
              | succ go1 =>
              have hit' : decide ((i : Int) < (ax.length : Int)) = true := decide_eq_true (by omega)
              have q0 : (0 : Int) ≤ (i : Int) := by omega
              have q1 : (i : Int) < (ax.length : Int) := by omega
              have I200 := Aside0.mk (show i < 200 by have := P2.out; omega)
              obtain ⟨ada, e, -⟩ := HR2.out.2.2 (by omega)
              subst e
              have yv := Kd.foot_int HR2.out (i : Int) q0 q1
              rw [Int.toNat_natCast] at yv
              have AI := Aside0.mk (axle_in HAT.out i hit)
              have GS := Aside0.mk (show metTo ps ax fr tt (i + 1) = metTo ps ax fr tt i ++ rowTo ps (rd ax (i : Int)) (i : Int) fr tt ps.length from rfl)
              have LT := Aside0.mk (show (metTo ps ax fr tt i).length ≤ 24000 from Nat.le_trans (metTo_len ps ax fr tt i) (Nat.le_trans (Nat.mul_le_mul (Nat.le_of_lt I200.out) P1.out) (by omega)))
              generalize rd ax (i : Int) = ai at yv AI GS
              replace yv := pw_cell_below HB.out yv
              go_wp2_with fail
              clear yv
              go_loopg [16, 140] ps.length (fun kq v16 v140 w' => ∃ k : Nat, v140 = .int .i64 k ∧ Aside0 (k + kq = ps.length) ∧ Aside0 (Kd.R k154 146 w' w1.heap.size (fun _ => True) v16 (metTo ps ax fr tt i ++ rowTo ps ai (i : Int) fr tt k)) ∧ Aside0 (Below w1.heap.size w1 w'))
              case atStart => exact ⟨0, rfl, ⟨by omega⟩, ⟨by rw [rowTo, List.append_nil]; exact HO.out⟩, HB⟩
              case round =>
                clear HO HB
                obtain ⟨k, rfl, HK, HO, HB⟩ := hrel
                by_cases hkt : k < ps.length
                · cases gk with
                  | zero => exact absurd HK.out (by omega)
                  | succ go2 =>
                  have hkt' : decide ((k : Int) < (ps.length : Int)) = true := decide_eq_true (by omega)
                  have r0 : (0 : Int) ≤ (k : Int) := by omega
                  have r1 : (k : Int) < (ps.length : Int) := by omega
                  obtain ⟨adp, e, x0, x1, x2⟩ := at_T143 HR1.out (k : Int) r0 r1
                  cases e
                  rw [Int.toNat_natCast] at x0 x1 x2
                  have pin := post_in HPT.out k hkt
                  have RS := Aside0.mk (show rowTo ps ai (i : Int) fr tt (k + 1) = rowTo ps ai (i : Int) fr tt k ++ metAt ps ai (i : Int) fr tt k from rfl)
                  have MA := Aside0.mk (show metAt ps ai (i : Int) fr tt k = if fr < (rd_T143 ps (k : Int)).f0 + ai ∧ (rd_T143 ps (k : Int)).f0 + ai ≤ tt then [⟨(rd_T143 ps (k : Int)).f0 + ai, (i : Int), (k : Int)⟩] else [] from rfl)
                  have HL := Aside0.mk (show (metTo ps ax fr tt i ++ rowTo ps ai (i : Int) fr tt k).length ≤ 30000 by rw [List.length_append]; have := rowTo_len ps ai (i : Int) fr tt k; have := LT.out; have := P1.out; omega)
                  generalize rd_T143 ps (k : Int) = x at x0 x1 x2 pin MA
                  replace x0 := pw_cell_below HB.out x0
                  replace x1 := pw_cell_below HB.out x1
                  replace x2 := pw_cell_below HB.out x2
                  obtain ⟨s, hs⟩ : ∃ s, s = x.f0 + ai := ⟨_, rfl⟩
                  have hs1 : wrap64 (ai + x.f0) = s := (wrap_id (by have := AI.out; omega) (by have := AI.out; omega)).trans (by omega)
                  rw [← hs] at MA
                  have hs2 : IntKind.i64.wrap (ai + x.f0) = s := (i64_w _).trans hs1
                  clear hs pin
                  go_upto_region 23 with ((with_reducible refine gate_dst (N := 20) rfl ?_); refine box_event ?hg (N := 20) ?hd (cs := #[.int .i64 0, .int .i64 0, .int .i64 0]) (t := 143) ?hr ?_; (case hd => rfl); (case hg => rfl); (case hr => first | (go_simp; done) | (go_simp; rfl)); intro gx ex wx kx bx; have EX := Aside0.mk ex; have KX := Aside0.mk kx; have BX := Aside0.mk bx; clear ex kx bx; have kx0 : wx.cell? ⟨gx, 0, none⟩ = some (.int .i64 0) := (blk_cell KX.out 0).trans rfl; have zkx0 := blk_frozen KX.out 0; have kx1 : wx.cell? ⟨gx, 1, none⟩ = some (.int .i64 0) := (blk_cell KX.out 1).trans rfl; have zkx1 := blk_frozen KX.out 1; have kx2 : wx.cell? ⟨gx, 2, none⟩ = some (.int .i64 0) := (blk_cell KX.out 2).trans rfl; have zkx2 := blk_frozen KX.out 2)
                  have FX := Aside0.mk (fill3t (y0 := .int .i64 x.f0) (y1 := .int .i64 x.f1) (y2 := .int .i64 x.f2) KX.out BX.out (Nat.le_of_eq EX.out.symm))
                  clear kx0 zkx0 kx1 zkx1 kx2 zkx2 KX BX EX x0 x1 x2
                  generalize (((wx.setCell ⟨gx, 0, none⟩ (.int .i64 x.f0)).setCell ⟨gx, 1, none⟩ (.int .i64 x.f1)).setCell ⟨gx, 2, none⟩ (.int .i64 x.f2)) = w6 at FX ⊢
                  have kx0 : w6.cell? ⟨gx, 0, none⟩ = some (.int .i64 x.f0) := (blk_cell FX.out.2 0).trans rfl
                  have HO := Aside0.mk (Kd.R_below HO.out FX.out.1)
                  have HB := Aside0.mk (below_step HB.out FX.out.1)
                  clear FX
                  have W2 := Aside0.mk (show wrap64 ((k : Int) + 1) = ((k + 1 : Nat) : Int) from (wrap_id (by omega) (by have := P1.out; omega)).trans (by omega))
                  by_cases hf : fr < s
                  · have hf' : decide (fr < s) = true := decide_eq_true hf
                    have hf2 : decide (s > fr) = true := decide_eq_true hf
                    by_cases ht : s ≤ tt
                    · have ht' : decide (s ≤ tt) = true := decide_eq_true ht
                      have H1 := Aside0.mk (MA.out.trans (if_pos ⟨hf, ht⟩))
                      go_wp2_with (at_builtin; refine Kd.R_append k154 (w0 := w1) w1.heap.size rfl (.tmp 157) (.tmp 162) 144 146 (.agg #[.int .i64 0, .int .i64 0, .int .i64 0]) 24 rfl Try.underlying144 info146 rfl (by decide) (by decide) u16 (metTo ps ax fr tt i ++ rowTo ps ai (i : Int) fr tt k) ⟨s, (i : Int), (k : Int)⟩ [.int .i64 s, .int .i64 (i : Int), .int .i64 (k : Int)] (fun _ => True) (fun _ => False) rfl rfl (k154_mkM _ _ _ ⟨s, (i : Int), (k : Int)⟩) (fun k hk => hk.elim) (fun _ _ => trivial) HO.out HB.out HB.out.size (by have := HL.out; omega) ?_; intro vn wn hsn hbn hgn _; have HN := Aside0.mk hsn; have HBN := Aside0.mk hbn; clear hsn hbn hgn)
                      go_roundg go2
                      case measure => omega
                      case rel => exact ⟨k + 1, congrArg (Value.int .i64) (by first | exact W2.out | omega), ⟨by have := HK.out; omega⟩, ⟨by rw [RS.out, H1.out, ← List.append_assoc]; exact HN.out⟩, HBN⟩
                    · have ht' : decide (s ≤ tt) = false := decide_eq_false ht
                      have H1 := Aside0.mk (MA.out.trans (if_neg (fun q => ht q.2)))
                      go_wp2_with fail
                      go_roundg go2
                      case measure => omega
                      case rel => exact ⟨k + 1, congrArg (Value.int .i64) (by first | exact W2.out | omega), ⟨by have := HK.out; omega⟩, ⟨by rw [RS.out, H1.out, List.append_nil]; exact HO.out⟩, HB⟩
                  · have hf' : decide (fr < s) = false := decide_eq_false hf
                    have hf2 : decide (s > fr) = false := decide_eq_false hf
                    have H1 := Aside0.mk (MA.out.trans (if_neg (fun q => hf q.1)))
                    go_wp2_with fail
                    go_roundg go2
                    case measure => omega
                    case rel => exact ⟨k + 1, congrArg (Value.int .i64) (by first | exact W2.out | omega), ⟨by have := HK.out; omega⟩, ⟨by rw [RS.out, H1.out, List.append_nil]; exact HO.out⟩, HB⟩
                · have hkt' : decide ((k : Int) < (ps.length : Int)) = false := decide_eq_false (by omega)
                  have HKE := Aside0.mk (show k = ps.length by have := HK.out; omega)
                  have W1 := Aside0.mk (show wrap64 ((i : Int) + 1) = ((i + 1 : Nat) : Int) from (wrap_id (by omega) (by have := I200.out; omega)).trans (by omega))
                  go_wp2_with fail
                  go_roundg go1
                  case measure => omega
                  case rel => exact ⟨i + 1, congrArg (Value.int .i64) (by first | exact W1.out | omega), ⟨by have := HI.out; omega⟩, ⟨by rw [GS.out, ← HKE.out]; exact HO.out⟩, HB⟩
            · have hit' : decide ((i : Int) < (ax.length : Int)) = false := decide_eq_false (by omega)
              have hi : i = ax.length := by have := HI.out; omega
              rw [hi] at HO
              clear hi
              have HO : Aside0 (Kd.R k154 146 wr w1.heap.size (fun _ => True) u16 (mets ps ax fr tt)) := HO
              have HML := Aside0.mk (show (mets ps ax fr tt).length ≤ 24000 from Nat.le_trans (metTo_len ps ax fr tt ax.length) (Nat.le_trans (Nat.mul_le_mul P2.out P1.out) (by omega)))
              have HND := Aside0.mk (mets_nodup ps ax fr tt)
              have HXM := Aside0.mk (fun x (h : x ∈ mets ps ax fr tt) => mem_mets.1 h)
              have HBD := Aside0.mk (show ∀ x ∈ mets ps ax fr tt, BdM x from fun x hx => by
                obtain ⟨ia, kp, hia, hkp, e, -⟩ := mem_mets.1 hx
                have h1 := post_in HPT.out kp hkp
                have h2 := axle_in HAT.out ia hia
                have h3 := P1.out
                have h4 := P2.out
                rw [e]
                unfold BdM
                dsimp only
                omega)
              have RES := Aside0.mk (show res = (sortM (mets ps ax fr tt)).map (evOf ps) from RES.out)
              generalize mets ps ax fr tt = xs at HO HML HND HXM HBD RES
              obtain ⟨Am, cm, rfl⟩ := Kd.R_slice HO.out
              go_upto_region 29 with (go_at_call 120; refine (sort_any HO.out HND.out HBD.out (by have := HML.out; omega)).mono ?_; rintro e w10 ⟨rfl, ho, hg⟩; have HB := Aside0.mk (pw_below_grown HB.out _ HB.out.size hg (fun m hm => Kd.R_base HO.out _ hm)); have HO := Aside0.mk ho; clear ho hg)
              obtain ⟨zs, hzs⟩ : ∃ zs, zs = sortM xs := ⟨_, rfl⟩
              have HZL := Aside0.mk (show zs.length = xs.length by rw [hzs, sortM_len])
              have HXM := Aside0.mk (fun x (h : x ∈ zs) => HXM.out x (mem_sortM.1 (hzs ▸ h)))
              have HZE := Aside0.mk hzs
              have HZ := Aside0.mk (show Kd.C k154 w10 Am xs.length zs by have h := (Kd.R_reads' HO.out).2.2; rw [sortM_len] at h; rw [hzs]; exact h)
              clear hzs
              have HR1 := Aside0.mk (Kd.C_below HR1.out HB.out)
              go_wp2_with fail
              go_loopg [22, 170] xs.length (fun kq v22 v170 w' => ∃ i : Nat, v170 = .int .i64 i ∧ Aside0 (i + kq = xs.length) ∧ Aside0 (Kd.R k56 56 w' w10.heap.size (fun _ => True) v22 ((zs.take i).map (evOf ps))) ∧ Aside0 (Below w10.heap.size w10 w'))
              case atStart => exact ⟨0, rfl, ⟨by omega⟩, ⟨Kd.R_nil _ _ _ _ _⟩, ⟨Below.refl _ _⟩⟩
              case round =>
                obtain ⟨m, rfl, HM, HQ, HE⟩ := hrel
                by_cases hmt : m < xs.length
                · cases gk with
                  | zero => exact absurd HM.out (by omega)
                  | succ go2 =>
                    have hmt' : decide ((m : Int) < (xs.length : Int)) = true := decide_eq_true (by omega)
                    obtain ⟨adz, e, x0, x1, x2⟩ := at_T154 HZ.out (m : Int) (by omega) (by omega)
                    cases e
                    rw [Int.toNat_natCast] at x0 x1 x2
                    have hmz : m < zs.length := by rw [HZL.out]; exact hmt
                    have hrd : rd_T154 zs (m : Int) = zs[m] := by simp [rd_T154, hmz]
                    have hx := HXM.out (rd_T154 zs (m : Int)) (by rw [hrd]; exact List.getElem_mem hmz)
                    have TS := Aside0.mk (show (zs.take (m + 1)).map (evOf ps) = (zs.take m).map (evOf ps) ++ [evOf ps (rd_T154 zs (m : Int))] by rw [List.take_succ_eq_append_getElem hmz, List.map_append, hrd]; rfl)
                    clear hrd hmz
                    generalize rd_T154 zs (m : Int) = x at x0 x1 x2 hx TS
                    obtain ⟨ia, kp, -, hkp, ex, -⟩ := hx
                    have hx2 : x.f2 = (kp : Int) := by rw [ex]
                    have EX2 := Aside0.mk hx2
                    rw [hx2] at x2
                    clear ex hx2
                    replace x0 := pw_cell_below HE.out x0
                    replace x1 := pw_cell_below HE.out x1
                    replace x2 := pw_cell_below HE.out x2
                    have hkp0 : (0 : Int) ≤ (kp : Int) := by omega
                    have hkp' : decide ((kp : Int) < (ps.length : Int)) = true := decide_eq_true (by omega)
                    have TL := Aside0.mk (show ((zs.take m).map (evOf ps)).length ≤ 24000 by rw [List.length_map, List.length_take]; have := HML.out; have := HZL.out; omega)
                    have W3 := Aside0.mk (show wrap64 ((m : Int) + 1) = ((m + 1 : Nat) : Int) from (wrap_id (by omega) (by have := HML.out; omega)).trans (by omega))
                    go_upto_region 33 with ((with_reducible refine gate_dst (N := 24) rfl ?_); refine box_event ?hg (N := 24) ?hd (cs := #[.int .i64 0, .int .i64 0, .int .i64 0]) (t := 146) ?hr ?_; (case hd => rfl); (case hg => rfl); (case hr => first | (go_simp; done) | (go_simp; rfl)); intro gx ex wx kx bx; have EX := Aside0.mk ex; have KX := Aside0.mk kx; have BX := Aside0.mk bx; clear ex kx bx; have kx0 : wx.cell? ⟨gx, 0, none⟩ = some (.int .i64 0) := (blk_cell KX.out 0).trans rfl; have zkx0 := blk_frozen KX.out 0; have kx1 : wx.cell? ⟨gx, 1, none⟩ = some (.int .i64 0) := (blk_cell KX.out 1).trans rfl; have zkx1 := blk_frozen KX.out 1; have kx2 : wx.cell? ⟨gx, 2, none⟩ = some (.int .i64 0) := (blk_cell KX.out 2).trans rfl; have zkx2 := blk_frozen KX.out 2)
                    have FX := Aside0.mk (fill3t (y0 := .int .i64 x.f0) (y1 := .int .i64 x.f1) (y2 := .int .i64 (kp : Int)) KX.out BX.out (Nat.le_of_eq EX.out.symm))
                    have NX := Aside0.mk (show ∀ k, (u22 : Value).ownBlock = some k → k < gx from fun k hk => by rw [EX.out]; exact Kd.R_lt HQ.out k hk)
                    clear kx0 zkx0 kx1 zkx1 kx2 zkx2 KX BX EX x0 x1 x2
                    generalize (((wx.setCell ⟨gx, 0, none⟩ (.int .i64 x.f0)).setCell ⟨gx, 1, none⟩ (.int .i64 x.f1)).setCell ⟨gx, 2, none⟩ (.int .i64 (kp : Int))) = w13 at FX ⊢
                    have HQ := Aside0.mk (Kd.R_below HQ.out (below_drew1 FX.out.1))
                    have HE := Aside0.mk (below_drew1 (below_step HE.out FX.out.1))
                    have KX := Aside0.mk (blk_drew FX.out.2)
                    clear FX
                    obtain ⟨adp, e, p0, p1, p2⟩ := at_T143 HR1.out (kp : Int) (by omega) (by omega)
                    cases e
                    rw [Int.toNat_natCast] at p0 p1 p2
                    have EV := Aside0.mk (show evOf ps x = ⟨1, (rd_T143 ps (kp : Int)).f1, (rd_T143 ps (kp : Int)).f2⟩ by rw [evOf, EX2.out])
                    generalize rd_T143 ps (kp : Int) = pp at p0 p1 p2 EV
                    have P1B := Aside0.mk p1
                    have P2B := Aside0.mk p2
                    replace p1 := pw_cell_below HE.out p1
                    replace p2 := pw_cell_below HE.out p2
                    clear p0
                    have kx2 : w13.drew.cell? ⟨gx, 2, none⟩ = some (.int .i64 (kp : Int)) := (blk_cell KX.out 2).trans rfl
                    refine startK 17 (S := fun w' => w'.cell? ⟨gx, 2, none⟩ = some (.int .i64 (kp : Int)) ∧ w'.cell? ⟨(adp.add (kp * 3)).block, (adp.add (kp * 3)).off + 1, none⟩ = some (.int .i64 pp.f1) ∧ w'.cell? ⟨(adp.add (kp * 3)).block, (adp.add (kp * 3)).off + 2, none⟩ = some (.int .i64 pp.f2)) (ds := []) (by kernel_rfl) rfl ⟨kx2, p1, p2⟩ (fun hHeld => ?_)
                    refine with_tabW ip_tab33 ip_bits33 (fun HT_ HW_ => ?_)
                    repeat (first
                      | (refine take0 (v := ?_) (a' := ?_) (by simp only [Nat.reduceAdd]; rfl) (by rfl) HT_.out HW_.out (by kernel_rfl) (by exact fun _ _ _ h => h) hHeld ?_ ?_ ?_; rotate_left 2; (· rintro w' ⟨s0, s1, s2⟩; go_simp; with_reducible rfl); (· simp only [Act.put, List.setIfInBounds_toArray, List.set_cons_zero, List.set_cons_succ, i64_w, i32_w]; rfl))
                      | (refine takeG (v := ?_) (a' := ?_) (by simp only [Nat.reduceAdd]; rfl) (by rfl) (by rfl) HT_.out HW_.out (by kernel_rfl) (by exact fun _ _ _ h => h) hHeld ?_ ?_ ?_; rotate_left 2; (· first | (rw [if_neg (by decide)]; done) | (rw [if_pos (by decide)]; rintro w' ⟨s0, s1, s2⟩; go_simp; with_reducible rfl)); (· simp only [Act.put, List.setIfInBounds_toArray, List.set_cons_zero, List.set_cons_succ, i64_w, i32_w]; rfl))
                      | (refine oneK (by simp only [Nat.reduceAdd]; rfl) (by rfl) HT_.out (by kernel_rfl) (by decide) (fun K hK => ?_); refine Kd.R_lit_step k56 (w0 := w10) w10.heap.size 56 ?hg (N := 188) ?hd (xs := [(⟨1, pp.f1, pp.f2⟩ : S56)]) (inner := [.int .i64 1, .int .i64 pp.f1, .int .i64 pp.f2]) (ok := fun k_ => some k_ ≠ (u22 : Value).ownBlock) (okp := fun _ => False) ?hr ?hp (fun _ hk => hk.elim) (lit_fresh2 HQ.out) HE.out (below_size HE.out) (by simp) ?_; (case hd => rfl); (case hg => rfl); (case hr => first | (go_simp; done) | (go_simp; rfl)); (case hp => exact (Reps.c3 (show Kd.M k56 _ _ _ (⟨1, pp.f1, pp.f2⟩ : S56) [.int .i64 1, .int .i64 pp.f1, .int .i64 pp.f2] from (k56_mkM _ _ _ (⟨1, pp.f1, pp.f2⟩ : S56))) (Reps.none _ _))); intro v10 w15 ho hb2 hg hn; obtain ⟨A10, c10, rfl⟩ := Kd.R_slice ho; have R10 := Aside0.mk (Kd.R_reads' ho); have hb := lit_below2 hg; have HQ := Aside0.mk (Kd.R_below HQ.out hb); have HE := Aside0.mk hb2; have KX := Aside0.mk (blk_below KX.out hb); refine hK.out _ _ ⟨pw_cell_below hb hHeld.1, pw_cell_below hb hHeld.2.1, pw_cell_below hb hHeld.2.2⟩ (fun hHeld => ?_); clear ho hb hb2 hg hn hK K; refine norm_ (a' := ?_) ?_ ?_; rotate_left; · simp only [Act.put, List.setIfInBounds_toArray, List.set_cons_zero, List.set_cons_succ, i64_w, i32_w]; rfl)
                      | (refine oneK (by simp only [Nat.reduceAdd]; rfl) (by rfl) HT_.out (by kernel_rfl) (by decide) (fun K hK => ?_); refine Kd.R_append_rows_step k56 (w0 := w10) w10.heap.size (by rfl) (.tmp 174) (.tmp 188) 35 56 (.agg #[(.int .i64 0), (.int .i64 0), (.int .i64 0)]) 24 rfl Try.underlying35 infoE56 rfl (by decide) (by omega) u22 ((zs.take m).map (evOf ps)) [(⟨1, pp.f1, pp.f2⟩ : S56)] _ _ _ (fun _ => True) (fun _ => False) rfl rfl HQ.out R10.out.2.2 (fun x cs h => h) (fun _ h => h.elim) (fun _ _ => trivial) HE.out (below_size HE.out) (by have := TL.out; simp only [List.length_cons, List.length_nil]; omega) ?_; intro vn wn ho hb hg hat; have HN := Aside0.mk ho; have HBN := Aside0.mk hb; have KXN := Aside0.mk ((hg.block gx (blk_lt KX.out) (fun e => by have := NX.out gx e.symm; omega)).trans KX.out); refine hK.out _ _ ⟨(blk_cell KXN.out 2).trans rfl, pw_cell_below hb P1B.out, pw_cell_below hb P2B.out⟩ (fun hHeld => ?_); clear ho hb hg hat hK K; refine norm_ (a' := ?_) ?_ ?_; rotate_left; · simp only [Act.put, List.setIfInBounds_toArray, List.set_cons_zero, List.set_cons_succ, i64_w, i32_w]; rfl))
                    refine done_ (done_of HT_.out (by kernel_rfl)) ?_
                    go_wp2_with fail
                    go_roundg go2
                    case measure => omega
                    case rel => exact ⟨m + 1, congrArg (Value.int .i64) (by first | exact W3.out | omega), ⟨by have := HM.out; omega⟩, ⟨by rw [TS.out, EV.out]; exact HN.out⟩, HBN⟩
                · have hmt' : decide ((m : Int) < (xs.length : Int)) = false := decide_eq_false (by omega)
                  have HQ := Aside0.mk (show Kd.R k56 56 wr w10.heap.size (fun _ => True) u22 res by have h := HQ.out; rw [List.take_of_length_le (by rw [HZL.out]; omega), HZE.out, ← RES.out] at h; exact h)
                  go_wp2_with fail
                  go_ret
                  exact ⟨_, rfl, Kd.R_lower HQ.out (Nat.le_trans BL.out.size HB.out.size), below_step (below_step BL.out HB.out) HE.out⟩
end Go.Proofs.Ytpdnabhpkdchjaa.P
namespace Go.Proofs.Ytpdnabhpkdchjaa.P
open Go.RowKit Go.Proofs.YtpdnabhpkdchjaaW.PrintWords Go.Proofs.YtpdnabhpkdchjaaW.PrintLast Go.Proofs.YtpdnabhpkdchjaaW.PrintMore
set_option linter.unusedVariables false
theorem ipassing_is (n : Int) (A : Option Addr) (c : Nat) (l : List S88) (A1 : Option Addr) (c1 : Nat) (ps : List S143) (A2 : Option Addr) (c2 : Nat) (ax : List Int) (fr tt : Int) (w : World) (hr : Kd.C k88 w A l.length l) (hc : l.length ≤ c) (hr1 : Kd.C k143 w A1 ps.length ps) (hc1 : ps.length ≤ c1) (hr2 : Kd.C (Kd.int .i64) w A2 ax.length ax) (hc2 : ax.length ≤ c2) (hp : ps.length ≤ 1048576) (ha : ax.length ≤ 1048576) :
    Calls Try.prog 75 #[.agg #[.int .i64 n, .slice A l.length c], .slice A1 ps.length c1, .slice A2 ax.length c2, .int .i64 fr, .int .i64 tt] w fun e w' => ∃ v0_ : Value, e = .returned v0_ ∧ Kd.R k56 56 w' w.heap.size (fun _ => True) v0_ (passing n l ps ax fr tt) ∧ Below w.heap.size w w' := by
  by_cases t0 : layoutOk n l = 0
  · by_cases t1 : ps.length ≤ 120
    · by_cases t2 : ax.length ≤ 200
      · cases t3 : farB fr
        · have e : passOk n l ps ax fr tt = false := by unfold farB at t3; rw [passOk, t3]; simp
          rw [passing, e, if_neg (by decide)]
          exact ipass_no3 n A c l A1 c1 ps A2 c2 ax fr tt w hr hc hr1 hc1 hr2 hc2 hp ha t0 t1 t2 t3
        · cases t4 : farB tt
          · have e : passOk n l ps ax fr tt = false := by rw [passOk]; unfold farB at t3 t4; rw [Bool.and_eq_true, decide_eq_true_eq, decide_eq_true_eq] at t3; rw [bad_to t3.1 t4, Bool.and_false]
            rw [passing, e, if_neg (by decide)]
            exact ipass_no4 n A c l A1 c1 ps A2 c2 ax fr tt w hr hc hr1 hc1 hr2 hc2 hp ha t0 t1 t2 t3 t4
          · by_cases t5 : fr ≤ tt
            · have h3 := far_yes t3
              have h4 := far_yes t4
              have e : passing n l ps ax fr tt = if (postsTo l ps ps.length && axlesTo ax ax.length) = true then trainEvs ps ax fr tt else [] := by
                rw [passing, passOk, decide_eq_true t0, decide_eq_true t1, decide_eq_true t2, decide_eq_true h3.1, decide_eq_true h3.2, decide_eq_true t5, decide_eq_true h4.2]; simp
              rw [e]
              exact ipass_yes n A c l A1 c1 ps A2 c2 ax fr tt w hr hc hr1 hc1 hr2 hc2 hp ha t0 t1 t2 t3 t4 t5
            · have e : passOk n l ps ax fr tt = false := by rw [passOk, decide_eq_false t5]; simp
              rw [passing, e, if_neg (by decide)]
              exact ipass_no5 n A c l A1 c1 ps A2 c2 ax fr tt w hr hc hr1 hc1 hr2 hc2 hp ha t0 t1 t2 t3 t4 (by omega)
      · have e : passOk n l ps ax fr tt = false := by rw [passOk, decide_eq_false t2]; simp
        rw [passing, e, if_neg (by decide)]
        exact ipass_no2 n A c l A1 c1 ps A2 c2 ax fr tt w hr hc hr1 hc1 hr2 hc2 hp ha t0 t1 (by omega)
    · have e : passOk n l ps ax fr tt = false := by rw [passOk, decide_eq_false t1]; simp
      rw [passing, e, if_neg (by decide)]
      exact ipass_no1 n A c l A1 c1 ps A2 c2 ax fr tt w hr hc hr1 hc1 hr2 hc2 hp ha t0 (by omega)
  · have e : passOk n l ps ax fr tt = false := by rw [passOk, decide_eq_false t0]; simp
    rw [passing, e, if_neg (by decide)]
    exact ipass_no0 n A c l A1 c1 ps A2 c2 ax fr tt w hr hc hr1 hc1 hr2 hc2 hp ha _ rfl (by simp [t0])
end Go.Proofs.Ytpdnabhpkdchjaa.P
namespace Go.Proofs.Ytpdnabhpkdchjaa.P
open Go.RowKit Go.Proofs.YtpdnabhpkdchjaaW.PrintWords Go.Proofs.YtpdnabhpkdchjaaW.PrintLast Go.Proofs.YtpdnabhpkdchjaaW.PrintMore
attribute [local go_sem] max2_int min2_int max_two min_two max_three min_three max_four min_four
set_option linter.unusedVariables false
set_option linter.unusedSimpArgs false
def laws_markEventS.l0:Nat→List (S56)→Int→Int→Option (Int × (List (S56)))
 | 0,_,_,_=>none
 | k+1,x0,x1,x5=>if x5<(x0.length:Int) then (if 0≤x5 then ((some (x0.set (x5:Int).toNat (⟨x1,(rd_T56 x0 x5).f1,(rd_T56 x0 x5).f2⟩:S56):List (S56))).bind fun y801=>((some (y801.set (x5:Int).toNat (⟨(rd_T56 y801 x5).f0,wrap64 (x1+1),(rd_T56 y801 x5).f2⟩:S56):List (S56))).bind fun y802=>(laws_markEventS.l0 k (y802.set (x5:Int).toNat (⟨(rd_T56 y802 x5).f0,(rd_T56 y802 x5).f1,wrap64 ((wrap64 (x1+1))+1)⟩:S56)) (wrap64 ((wrap64 ((wrap64 (x1+1))+1))+1)) (wrap64 (x5+1))))) else (none)) else (some (x1,x0))
def laws_markEventS.f (k:Nat) (l0:List (S56)) (a1:Int):Option (Int × (List (S56))):=laws_markEventS.l0 k l0 a1 0
set_option maxHeartbeats 8000000 in
set_option maxRecDepth 100000 in
theorem laws_markEventS.calls (k:Nat) (P0_:Nat→Prop) (u9000_:Value) (l0:List (S56)) (a1:Int) (r1:Int) (r2:List (S56)) (w0 w:World) (hB:Below w0.heap.size w0 w) (ho0:Kd.R k56 56 w w0.heap.size P0_ u9000_ l0) (h:laws_markEventS.f k l0 a1=some (r1,r2)) :
  Calls Try.prog 60 #[u9000_,.int .i64 a1] w fun e w'=>e=.returned (.int .i64 r1)∧Kd.R k56 56 w' w0.heap.size (fun k_=>(P0_ k_ ∨ w.heap.size≤k_)) u9000_ r2∧Below w0.heap.size w0 w'∧Kept w w' (fun k_=>P0_ k_):=by
 have HO0:=Aside0.mk (show Kd.R k56 56 w w0.heap.size (fun k_=>(P0_ k_ ∨ w.heap.size≤k_)) u9000_ l0 from Kd.R_mono ho0 (fun k_ hk=>(.inl hk)))
 have HK:=Aside0.mk (Kept.refl w (fun k_=>P0_ k_))
 have HW0:=Aside0.mk hB.size
 have HB:=Aside0.mk hB
 clear hB
 have H:(laws_markEventS.l0 k l0 a1 0)=some (r1,r2):=h
 clear h
 have H':=Aside0.mk H
 clear H
 go_enter Try.func60,Try.ntmps60
 go_wp2
 go_loopg [1,5] k (fun kq v1 v5 w'=>∃ (x0_1:List (S56)) (x1_1:Int) (x5_1:Int),v1=.int .i64 x1_1∧v5=.int .i64 x5_1∧Aside0 (laws_markEventS.l0 kq x0_1 x1_1 x5_1=some (r1,r2))∧Aside0 (kq≤k)∧Aside0 (Kd.R k56 56 w' w0.heap.size (fun k_=>(P0_ k_ ∨ w.heap.size≤k_)) u9000_ x0_1)∧Aside0 (Kept w w' (fun k_=>P0_ k_))∧Aside0 (Below w0.heap.size w0 w'))
 case atStart=>exact ⟨(l0),(a1),(0),(by first|rfl|(simp;done)|(simp [*];done)),(by first|rfl|(simp;done)|(simp [*];done)),H',⟨Nat.le_refl _⟩,⟨by exact HO0.out⟩,⟨by exact HK.out⟩,⟨by exact HB.out⟩⟩
 case round =>
  clear H'
  try clear p2
  obtain ⟨x0_1,x1_1,x5_1,rfl,rfl,HA,HK1,HO_0,HK,HB⟩:=hrel
  cases gk with
  | zero=>exact absurd HA.out (by simp [laws_markEventS.l0])
  | succ k1 =>
   have H:=HA.out
   clear HA
   simp only [laws_markEventS.l0] at H
   by_cases c3:x5_1<(x0_1.length:Int)
   ·rw [if_pos c3] at H
    have c3b0:decide (x5_1<(x0_1.length:Int))=true:=decide_eq_true c3
    clear c3
    by_cases c4:0≤x5_1
    ·rw [if_pos c4] at H
     have c4b0:decide (0≤x5_1)=true:=decide_eq_true c4
     clear c4
     obtain ⟨y801,hy801⟩:∃ y_:List (S56),y_=(x0_1.set (x5_1:Int).toNat (⟨x1_1,(rd_T56 x0_1 x5_1).f1,(rd_T56 x0_1 x5_1).f2⟩:S56)):=⟨_,rfl⟩
     replace H:((some (y801.set (x5_1:Int).toNat (⟨(rd_T56 y801 x5_1).f0,wrap64 (x1_1+1),(rd_T56 y801 x5_1).f2⟩:S56):List (S56))).bind fun y802=>(laws_markEventS.l0 k1 (y802.set (x5_1:Int).toNat (⟨(rd_T56 y802 x5_1).f0,(rd_T56 y802 x5_1).f1,wrap64 ((wrap64 (x1_1+1))+1)⟩:S56)) (wrap64 ((wrap64 ((wrap64 (x1_1+1))+1))+1)) (wrap64 (x5_1+1))))=some (r1,r2):=by first|(rw [hy801];with_reducible exact H)|(have H2_:=(Option.bind_some _ _).symm.trans H;rw [hy801];with_reducible exact H2_)|(have H2_:=(Option.bind_some _ _).symm.trans H;with_reducible exact H2_)|with_reducible exact H|(rw [hy801];exact H)|exact H
     have Ny801:=Aside0.mk hy801
     clear hy801
     obtain ⟨y802,hy802⟩:∃ y_:List (S56),y_=(y801.set (x5_1:Int).toNat (⟨(rd_T56 y801 x5_1).f0,wrap64 (x1_1+1),(rd_T56 y801 x5_1).f2⟩:S56)):=⟨_,rfl⟩
     replace H:(laws_markEventS.l0 k1 (y802.set (x5_1:Int).toNat (⟨(rd_T56 y802 x5_1).f0,(rd_T56 y802 x5_1).f1,wrap64 ((wrap64 (x1_1+1))+1)⟩:S56)) (wrap64 ((wrap64 ((wrap64 (x1_1+1))+1))+1)) (wrap64 (x5_1+1)))=some (r1,r2):=by first|(rw [hy802];with_reducible exact H)|(have H2_:=(Option.bind_some _ _).symm.trans H;rw [hy802];with_reducible exact H2_)|(have H2_:=(Option.bind_some _ _).symm.trans H;with_reducible exact H2_)|with_reducible exact H|(rw [hy802];exact H)|exact H
     have Ny802:=Aside0.mk hy802
     clear hy802
     obtain ⟨y803,hy803⟩:∃ y_:List (S56),y_=(y802.set (x5_1:Int).toNat (⟨(rd_T56 y802 x5_1).f0,(rd_T56 y802 x5_1).f1,wrap64 ((wrap64 (x1_1+1))+1)⟩:S56)):=⟨_,rfl⟩
     replace H:(laws_markEventS.l0 k1 y803 (wrap64 ((wrap64 ((wrap64 (x1_1+1))+1))+1)) (wrap64 (x5_1+1)))=some (r1,r2):=by first|(rw [hy803];with_reducible exact H)|(have H2_:=(Option.bind_some _ _).symm.trans H;rw [hy803];with_reducible exact H2_)|(have H2_:=(Option.bind_some _ _).symm.trans H;with_reducible exact H2_)|with_reducible exact H|(rw [hy803];exact H)|exact H
     have Ny803:=Aside0.mk hy803
     clear hy803
     have H':=Aside0.mk H
     clear H
     obtain ⟨Ao8,co8,eo8⟩:=Kd.R_slice HO_0.out
     subst eo8
     have p5:0≤(x5_1:Int):=of_decide_eq_true (by first|(with_reducible assumption)|assumption)
     have q5:(x5_1:Int)<((x0_1.length:Int):Int):=of_decide_eq_true (by first|(with_reducible assumption)|assumption)
     obtain ⟨go5,co5,eo5,gb5,gl5,cl5,HG5⟩:=Kd.R_form HO_0.out (by omega)
     (first|cases eo5|(injection eo5 with ea_ en_ ec_;(first|subst ea_|(injection ea_ with ea_;subst ea_));subst ec_;clear en_))
     have GB5:=Aside0.mk gb5
     have GG5:=Aside0.mk HG5
     clear gb5 gl5 HG5
     have HMgo5:=Aside0.mk (show (P0_ go5 ∨ w.heap.size≤go5) from (HO_0.out.1 _ rfl))
     obtain ⟨ce5,hcl5,hM5,hcc5,hfr5⟩:=Kd.R_elem HO_0.out z56 (x5_1:Int) p5 q5
     obtain rfl:=k56_openM hM5
     have hx5_0:wr.cell? ⟨go5,(x5_1:Int).toNat * 3,none⟩=some (.int .i64 ((rd_T56 x0_1 x5_1).f0)):=hcc5 0 _ rfl
     have hx5_1:wr.cell? ⟨go5,(x5_1:Int).toNat * 3+1,none⟩=some (.int .i64 ((rd_T56 x0_1 x5_1).f1)):=hcc5 1 _ rfl
     have hx5_2:wr.cell? ⟨go5,(x5_1:Int).toNat * 3+2,none⟩=some (.int .i64 ((rd_T56 x0_1 x5_1).f2)):=hcc5 2 _ rfl
     have hf5_0:wr.frozen? ⟨go5,(x5_1:Int).toNat * 3,none⟩=false:=hfr5 0
     have hf5_1:wr.frozen? ⟨go5,(x5_1:Int).toNat * 3+1,none⟩=false:=hfr5 1
     have hf5_2:wr.frozen? ⟨go5,(x5_1:Int).toNat * 3+2,none⟩=false:=hfr5 2
     clear hcl5 hcc5 hfr5 hM5
     replace p5:=eq_true p5
     replace q5:=eq_true q5
     have HX9:=Aside0.mk (show Kd.R k56 56 wr w0.heap.size (fun k_=>(P0_ k_ ∨ w.heap.size≤k_)) (.slice (some ⟨go5,0,none⟩) x0_1.length co8) x0_1 from (by exact HO_0.out))
     obtain ⟨ce9,hcl9,hM9,hcc9,hfr9⟩:=Kd.R_elem HX9.out z56 (x5_1:Int) (of_decide_eq_true (by first|(with_reducible assumption)|assumption)) (by have h_:(x5_1:Int)<((x0_1.length:Int):Int):=of_decide_eq_true (by first|(with_reducible assumption)|assumption);first|exact h_|(have e_:=(Kd.R_reads' HO_0.out).1;omega)|simpa using h_)
     obtain rfl:=k56_openM hM9
     have HP9:=Kd.R_seg HX9.out (x5_1:Int) (of_decide_eq_true (by first|(with_reducible assumption)|assumption)) (by have h_:(x5_1:Int)<((x0_1.length:Int):Int):=of_decide_eq_true (by first|(with_reducible assumption)|assumption);first|exact h_|(have e_:=(Kd.R_reads' HO_0.out).1;omega)|simpa using h_) (seg:=[.int .i64 x1_1]) (j:=0) hcl9 hcc9 (show 1≤3 from by decide) (x':=(⟨x1_1,(rd_T56 x0_1 x5_1).f1,(rd_T56 x0_1 x5_1).f2⟩:S56)) (k56_mkM _ _ _ (⟨x1_1,(rd_T56 x0_1 x5_1).f1,(rd_T56 x0_1 x5_1).f2⟩:S56) ) (fun _ hk=>hk)
     have hx9_0:=hcc9 0 _ rfl
     (try simp only [show (k56).sz=3 from rfl,Nat.mul_one,Nat.add_zero] at hx9_0)
     have hf9_0:=hfr9 0
     (try simp only [show (k56).sz=3 from rfl,Nat.mul_one,Nat.add_zero] at hf9_0)
     clear hcl9 hcc9 hfr9 hM9
     go_wp2_with (first|((with_reducible refine gate_store (t:=3) (p:=16) rfl ?_);refine store_event (t:=3) (p:=16) (v:=?vo_w10) (w1:=(wr.setCell ⟨go5,(x5_1:Int).toNat * 3,none⟩ (.int .i64 x1_1))) ?hg ?ho ?hn ?hr ?_;(case ho=>rfl);(case hg=>rfl);(case hn=>rfl);(case hr=>first|(go_simp;done)|(go_simp;rfl));intro w10 hw;have hg:wr.grownBy w10 (some go5):=(by rw [hw];exact HP9.2);have hp_:Kd.R k56 56 w10 w0.heap.size (fun k_=>(P0_ k_ ∨ w.heap.size≤k_)) (.slice (some ⟨go5,0,none⟩) x0_1.length co8) y801:=(by rw [hw,Ny801.out];exact HP9.1);clear HP9;have n0_:=Aside0.mk (hp_);have n1_:=Aside0.mk ((by rw [hw];exact below_set (HB.out) GB5.out:Below w0.heap.size w0 w10));have n2_:=Aside0.mk (Kept.of_grown (S:=(fun k_=>P0_ k_)) hg (by exact HK.out) (fun k_ e_=>(HO_0.out.1 k_ e_)));clear HO_0;clear HB;clear HK;have HO_0:=n0_;have HB:=n1_;have HK:=n2_;clear n0_ n1_ n2_;clear hg hw hp_;have p6:0≤(x5_1:Int):=of_decide_eq_true (by first|(with_reducible assumption)|assumption);have q6:(x5_1:Int)<((x0_1.length:Int):Int):=of_decide_eq_true (by first|(with_reducible assumption)|assumption);obtain ⟨ce6,hcl6,hM6,hcc6,hfr6⟩:=Kd.R_elem HO_0.out z56 (x5_1:Int) p6 q6;obtain rfl:=k56_openM hM6;have hx6_0:w10.cell? ⟨go5,(x5_1:Int).toNat * 3,none⟩=some (.int .i64 ((rd_T56 y801 x5_1).f0)):=hcc6 0 _ rfl;have hx6_1:w10.cell? ⟨go5,(x5_1:Int).toNat * 3+1,none⟩=some (.int .i64 ((rd_T56 y801 x5_1).f1)):=hcc6 1 _ rfl;have hx6_2:w10.cell? ⟨go5,(x5_1:Int).toNat * 3+2,none⟩=some (.int .i64 ((rd_T56 y801 x5_1).f2)):=hcc6 2 _ rfl;have hf6_0:w10.frozen? ⟨go5,(x5_1:Int).toNat * 3,none⟩=false:=hfr6 0;have hf6_1:w10.frozen? ⟨go5,(x5_1:Int).toNat * 3+1,none⟩=false:=hfr6 1;have hf6_2:w10.frozen? ⟨go5,(x5_1:Int).toNat * 3+2,none⟩=false:=hfr6 2;clear hcl6 hcc6 hfr6 hM6;replace p6:=eq_true p6;replace q6:=eq_true q6;have HX11:=Aside0.mk (show Kd.R k56 56 w10 w0.heap.size (fun k_=>(P0_ k_ ∨ w.heap.size≤k_)) (.slice (some ⟨go5,0,none⟩) x0_1.length co8) y801 from (by exact HO_0.out));obtain ⟨ce11,hcl11,hM11,hcc11,hfr11⟩:=Kd.R_elem HX11.out z56 (x5_1:Int) (of_decide_eq_true (by first|(with_reducible assumption)|assumption)) (by have h_:(x5_1:Int)<((x0_1.length:Int):Int):=of_decide_eq_true (by first|(with_reducible assumption)|assumption);first|exact h_|(have e_:=(Kd.R_reads' HO_0.out).1;omega)|simpa using h_);obtain rfl:=k56_openM hM11;have HP11:=Kd.R_seg HX11.out (x5_1:Int) (of_decide_eq_true (by first|(with_reducible assumption)|assumption)) (by have h_:(x5_1:Int)<((x0_1.length:Int):Int):=of_decide_eq_true (by first|(with_reducible assumption)|assumption);first|exact h_|(have e_:=(Kd.R_reads' HO_0.out).1;omega)|simpa using h_) (seg:=[.int .i64 (wrap64 (x1_1+1))]) (j:=1) hcl11 hcc11 (show 2≤3 from by decide) (x':=(⟨(rd_T56 y801 x5_1).f0,wrap64 (x1_1+1),(rd_T56 y801 x5_1).f2⟩:S56)) (k56_mkM _ _ _ (⟨(rd_T56 y801 x5_1).f0,wrap64 (x1_1+1),(rd_T56 y801 x5_1).f2⟩:S56) ) (fun _ hk=>hk);have hx11_1:=hcc11 1 _ rfl;(try simp only [show (k56).sz=3 from rfl,Nat.mul_one,Nat.add_zero] at hx11_1);have hf11_1:=hfr11 1;(try simp only [show (k56).sz=3 from rfl,Nat.mul_one,Nat.add_zero] at hf11_1);clear hcl11 hcc11 hfr11 hM11)|((with_reducible refine gate_store (t:=3) (p:=23) rfl ?_);refine store_event (t:=3) (p:=23) (v:=?vo_w12) (w1:=(w10.setCell ⟨go5,(x5_1:Int).toNat * 3+1,none⟩ (.int .i64 (wrap64 (x1_1+1))))) ?hg ?ho ?hn ?hr ?_;(case ho=>rfl);(case hg=>rfl);(case hn=>rfl);(case hr=>first|(go_simp;done)|(go_simp;rfl));intro w12 hw;have hg:w10.grownBy w12 (some go5):=(by rw [hw];exact HP11.2);have hp_:Kd.R k56 56 w12 w0.heap.size (fun k_=>(P0_ k_ ∨ w.heap.size≤k_)) (.slice (some ⟨go5,0,none⟩) x0_1.length co8) y802:=(by rw [hw,Ny802.out];exact HP11.1);clear HP11;have n0_:=Aside0.mk (hp_);have n1_:=Aside0.mk ((by rw [hw];exact below_set (HB.out) GB5.out:Below w0.heap.size w0 w12));have n2_:=Aside0.mk (Kept.of_grown (S:=(fun k_=>P0_ k_)) hg (by exact HK.out) (fun k_ e_=>(HO_0.out.1 k_ e_)));clear HO_0;clear HB;clear HK;have HO_0:=n0_;have HB:=n1_;have HK:=n2_;clear n0_ n1_ n2_;clear hg hw hp_;have p7:0≤(x5_1:Int):=of_decide_eq_true (by first|(with_reducible assumption)|assumption);have q7:(x5_1:Int)<((x0_1.length:Int):Int):=of_decide_eq_true (by first|(with_reducible assumption)|assumption);obtain ⟨ce7,hcl7,hM7,hcc7,hfr7⟩:=Kd.R_elem HO_0.out z56 (x5_1:Int) p7 q7;obtain rfl:=k56_openM hM7;have hx7_0:w12.cell? ⟨go5,(x5_1:Int).toNat * 3,none⟩=some (.int .i64 ((rd_T56 y802 x5_1).f0)):=hcc7 0 _ rfl;have hx7_1:w12.cell? ⟨go5,(x5_1:Int).toNat * 3+1,none⟩=some (.int .i64 ((rd_T56 y802 x5_1).f1)):=hcc7 1 _ rfl;have hx7_2:w12.cell? ⟨go5,(x5_1:Int).toNat * 3+2,none⟩=some (.int .i64 ((rd_T56 y802 x5_1).f2)):=hcc7 2 _ rfl;have hf7_0:w12.frozen? ⟨go5,(x5_1:Int).toNat * 3,none⟩=false:=hfr7 0;have hf7_1:w12.frozen? ⟨go5,(x5_1:Int).toNat * 3+1,none⟩=false:=hfr7 1;have hf7_2:w12.frozen? ⟨go5,(x5_1:Int).toNat * 3+2,none⟩=false:=hfr7 2;clear hcl7 hcc7 hfr7 hM7;replace p7:=eq_true p7;replace q7:=eq_true q7;have HX13:=Aside0.mk (show Kd.R k56 56 w12 w0.heap.size (fun k_=>(P0_ k_ ∨ w.heap.size≤k_)) (.slice (some ⟨go5,0,none⟩) x0_1.length co8) y802 from (by exact HO_0.out));obtain ⟨ce13,hcl13,hM13,hcc13,hfr13⟩:=Kd.R_elem HX13.out z56 (x5_1:Int) (of_decide_eq_true (by first|(with_reducible assumption)|assumption)) (by have h_:(x5_1:Int)<((x0_1.length:Int):Int):=of_decide_eq_true (by first|(with_reducible assumption)|assumption);first|exact h_|(have e_:=(Kd.R_reads' HO_0.out).1;omega)|simpa using h_);obtain rfl:=k56_openM hM13;have HP13:=Kd.R_seg HX13.out (x5_1:Int) (of_decide_eq_true (by first|(with_reducible assumption)|assumption)) (by have h_:(x5_1:Int)<((x0_1.length:Int):Int):=of_decide_eq_true (by first|(with_reducible assumption)|assumption);first|exact h_|(have e_:=(Kd.R_reads' HO_0.out).1;omega)|simpa using h_) (seg:=[.int .i64 (wrap64 ((wrap64 (x1_1+1))+1))]) (j:=2) hcl13 hcc13 (show 3≤3 from by decide) (x':=(⟨(rd_T56 y802 x5_1).f0,(rd_T56 y802 x5_1).f1,wrap64 ((wrap64 (x1_1+1))+1)⟩:S56)) (k56_mkM _ _ _ (⟨(rd_T56 y802 x5_1).f0,(rd_T56 y802 x5_1).f1,wrap64 ((wrap64 (x1_1+1))+1)⟩:S56) ) (fun _ hk=>hk);have hx13_2:=hcc13 2 _ rfl;(try simp only [show (k56).sz=3 from rfl,Nat.mul_one,Nat.add_zero] at hx13_2);have hf13_2:=hfr13 2;(try simp only [show (k56).sz=3 from rfl,Nat.mul_one,Nat.add_zero] at hf13_2);clear hcl13 hcc13 hfr13 hM13)|((with_reducible refine gate_store (t:=3) (p:=30) rfl ?_);refine store_event (t:=3) (p:=30) (v:=?vo_w14) (w1:=(w12.setCell ⟨go5,(x5_1:Int).toNat * 3+2,none⟩ (.int .i64 (wrap64 ((wrap64 (x1_1+1))+1))))) ?hg ?ho ?hn ?hr ?_;(case ho=>rfl);(case hg=>rfl);(case hn=>rfl);(case hr=>first|(go_simp;done)|(go_simp;rfl));intro w14 hw;have hg:w12.grownBy w14 (some go5):=(by rw [hw];exact HP13.2);have hp_:Kd.R k56 56 w14 w0.heap.size (fun k_=>(P0_ k_ ∨ w.heap.size≤k_)) (.slice (some ⟨go5,0,none⟩) x0_1.length co8) y803:=(by rw [hw,Ny803.out];exact HP13.1);clear HP13;have n0_:=Aside0.mk (hp_);have n1_:=Aside0.mk ((by rw [hw];exact below_set (HB.out) GB5.out:Below w0.heap.size w0 w14));have n2_:=Aside0.mk (Kept.of_grown (S:=(fun k_=>P0_ k_)) hg (by exact HK.out) (fun k_ e_=>(HO_0.out.1 k_ e_)));clear HO_0;clear HB;clear HK;have HO_0:=n0_;have HB:=n1_;have HK:=n2_;clear n0_ n1_ n2_;clear hg hw hp_))
     go_roundg k1
     case measure=>have:=HK1.out;omega
     case rel=>exact ⟨(y803),(wrap64 ((wrap64 ((wrap64 (x1_1+1))+1))+1)),(wrap64 (x5_1+1)),(by first|rfl|(simp;done)|(simp [*];done)),(by first|rfl|(simp;done)|(simp [*];done)),H',⟨by have:=HK1.out;omega⟩,⟨by exact HO_0.out⟩,⟨by exact HK.out⟩,⟨by exact HB.out⟩⟩
    rw [if_neg c4] at H
    exact absurd H (by simp)
   rw [if_neg c3] at H
   have c3b0:decide (x5_1<(x0_1.length:Int))=false:=decide_eq_false c3
   clear c3
   simp only [Option.some.injEq,Prod.mk.injEq] at H
   obtain ⟨rfl,rfl⟩:=H
   obtain ⟨Ao15,co15,eo15⟩:=Kd.R_slice HO_0.out
   subst eo15
   go_wp2
   go_ret
   exact ⟨by first|rfl|(simp [errW_none,errW_some] <;> rfl)|(simp [*,errW_none,errW_some] <;> rfl),by exact HO_0.out,by exact HB.out,by exact HK.out⟩
end Go.Proofs.Ytpdnabhpkdchjaa.P
namespace Go.Proofs.Ytpdnabhpkdchjaa.P
open Go.RowKit Go.Proofs.YtpdnabhpkdchjaaW.PrintWords Go.Proofs.YtpdnabhpkdchjaaW.PrintLast Go.Proofs.YtpdnabhpkdchjaaW.PrintMore
attribute [local go_sem] max2_int min2_int max_two min_two max_three min_three max_four min_four
set_option linter.unusedVariables false
set_option linter.unusedSimpArgs false
def laws_szPostS.f (l0:List (S157)) (a1:Int):Option (Int):=if (wrap64 (a1 - (l0.length:Int)))<0 then (some (-1)) else (some (wrap64 (a1 - (l0.length:Int))))
set_option maxHeartbeats 8000000 in
set_option maxRecDepth 100000 in
theorem laws_szPostS.calls (A0:Option Addr) (c0:Nat) (l0:List (S157)) (a1:Int) (r:Int) (w:World) (hr0:Kd.C k157 w A0 l0.length l0) (hc0:l0.length≤c0) (h:laws_szPostS.f l0 a1=some r) :
  Calls Try.prog 79 #[.slice A0 l0.length c0,.int .i64 a1] w fun e w'=>e=.returned (.int .i64 r)∧Drawn0 w w':=by
 have HR0:=Aside0.mk hr0
 have HC0:=Aside0.mk hc0
 clear hr0 hc0
 have H:(if (wrap64 (a1 - (l0.length:Int)))<0 then (some (-1)) else (some (wrap64 (a1 - (l0.length:Int)))))=some r:=h
 clear h
 by_cases c3:(wrap64 (a1 - (l0.length:Int)))<0
 ·rw [if_pos c3] at H
  have c3b0:decide ((wrap64 (a1 - (l0.length:Int)))<0)=true:=decide_eq_true c3
  clear c3
  obtain rfl:=Option.some.inj H
  go_enter Try.func79,Try.ntmps79
  go_wp2
  go_ret
  exact ⟨by first|rfl|(simp;done)|(simp [*];done),by repeat (first|exact Drawn0.refl _|apply Drawn0.step)⟩
 rw [if_neg c3] at H
 have c3b0:decide ((wrap64 (a1 - (l0.length:Int)))<0)=false:=decide_eq_false c3
 clear c3
 obtain rfl:=Option.some.inj H
 go_enter Try.func79,Try.ntmps79
 go_wp2
 go_ret
 exact ⟨by first|rfl|(simp;done)|(simp [*];done),by repeat (first|exact Drawn0.refl _|apply Drawn0.step)⟩
end Go.Proofs.Ytpdnabhpkdchjaa.P
namespace Go.Proofs.Ytpdnabhpkdchjaa.P
open Go.RowKit Go.Proofs.YtpdnabhpkdchjaaW.PrintWords Go.Proofs.YtpdnabhpkdchjaaW.PrintLast Go.Proofs.YtpdnabhpkdchjaaW.PrintMore
attribute [local go_sem] max2_int min2_int max_two min_two max_three min_three max_four min_four
set_option linter.unusedVariables false
set_option linter.unusedSimpArgs false
def laws_toPost.f (a0_0:Int) (a0_1:Int) (a0_2:Int):Option (Int × Int × Int):=some (a0_0,a0_1,a0_2)
set_option maxHeartbeats 8000000 in
set_option maxRecDepth 100000 in
theorem laws_toPost.calls (a0_0:Int) (a0_1:Int) (a0_2:Int) (r1:Int) (r2:Int) (r3:Int) (w:World) (h:laws_toPost.f a0_0 a0_1 a0_2=some (r1,r2,r3)) :
  Calls Try.prog 126 #[.agg #[.int .i64 a0_0,.int .i64 a0_1,.int .i64 a0_2]] w fun e w'=>e=.returned (.agg #[.int .i64 r1,.int .i64 r2,.int .i64 r3])∧Below w.heap.size w w':=by
 have hu157:=Try.underlying157
 have hu143:=Try.underlying143
 have HB:=Aside0.mk (Below.refl w.heap.size w)
 have H:(some (a0_0,a0_1,a0_2))=some (r1,r2,r3):=h
 clear h
 simp only [Option.some.injEq,Prod.mk.injEq] at H
 obtain ⟨rfl,rfl,rfl⟩:=H
 go_enter Try.func126,Try.ntmps126
 go_wp2_with (first|((with_reducible refine gate_dst (N:=1) rfl ?_);refine box_event ?hg (N:=1) ?hd (cs:=#[.int .i64 a0_0,.int .i64 a0_1,.int .i64 a0_2]) (t:=157) ?hr ?_;(case hd=>rfl);(case hg=>rfl);(case hr=>first|(go_simp;done)|(go_simp;rfl));intro gb1110 hg w2 hbox hb;have n0_:=Aside0.mk (below_step (by repeat (first|(with_reducible first|exact HB.out|apply below_alloc|apply pw_below_drewN|apply below_drew1)|exact HB.out)) hb);have n1_:=Aside0.mk (hbox);have n2_:=Aside0.mk ((by rw [hg];exact (below_size (by repeat (first|(with_reducible first|exact HB.out|apply below_alloc|apply pw_below_drewN|apply below_drew1)|exact HB.out))):w.heap.size≤gb1110));have n3_:=Aside0.mk ((by rw [hg];exact (below_size (by repeat (first|(with_reducible first|exact HB.out|apply below_alloc|apply pw_below_drewN|apply below_drew1)|exact HB.out))):w.heap.size≤gb1110));clear HB;have HB:=n0_;have BK1110:=n1_;have GW1110:=n2_;have GE1110:=n3_;clear n0_ n1_ n2_ n3_;clear hb hbox hg)|((with_reducible refine gate_dst (N:=2) rfl ?_);refine box_event ?hg (N:=2) ?hd (cs:=#[.int .i64 0,.int .i64 0,.int .i64 0]) (t:=143) ?hr ?_;(case hd=>rfl);(case hg=>rfl);(case hr=>first|(go_simp;done)|(go_simp;rfl));intro gb1111 hg w3 hbox hb;have n0_:=Aside0.mk (blk_below (g:=gb1110) (o:=.cells #[.int .i64 a0_0,.int .i64 a0_1,.int .i64 a0_2] 157 (0,0)) (by (with_reducible repeat (first|refine blk_drewN ?_ _|refine blk_drew ?_|refine blk_alloc ?_ _));exact BK1110.out) hb);have n1_:=Aside0.mk (below_step (by repeat (first|(with_reducible first|exact HB.out|apply below_alloc|apply pw_below_drewN|apply below_drew1|refine below_set ?_ GE1110.out)|exact HB.out)) hb);have n2_:=Aside0.mk (hbox);have n3_:=Aside0.mk ((by rw [hg];exact (below_size (by repeat (first|(with_reducible first|exact HB.out|apply below_alloc|apply pw_below_drewN|apply below_drew1|refine below_set ?_ GE1110.out)|exact HB.out))):w.heap.size≤gb1111));have n4_:=Aside0.mk ((by rw [hg];exact (below_size (by repeat (first|(with_reducible first|exact HB.out|apply below_alloc|apply pw_below_drewN|apply below_drew1|refine below_set ?_ GE1110.out)|exact HB.out))):w.heap.size≤gb1111));have n5_:=Aside0.mk ((by rw [hg];exact Nat.ne_of_lt (blk_lt (g:=gb1110) (o:=.cells #[.int .i64 a0_0,.int .i64 a0_1,.int .i64 a0_2] 157 (0,0)) (by (with_reducible repeat (first|refine blk_drewN ?_ _|refine blk_drew ?_|refine blk_alloc ?_ _));exact BK1110.out)):gb1110 ≠ gb1111));have n6_:=Aside0.mk ((by rw [hg];exact Nat.ne_of_gt (blk_lt (g:=gb1110) (o:=.cells #[.int .i64 a0_0,.int .i64 a0_1,.int .i64 a0_2] 157 (0,0)) (by (with_reducible repeat (first|refine blk_drewN ?_ _|refine blk_drew ?_|refine blk_alloc ?_ _));exact BK1110.out)):gb1111 ≠ gb1110));clear BK1110;clear HB;have BK1110:=n0_;have HB:=n1_;have BK1111:=n2_;have GW1111:=n3_;have GE1111:=n4_;have NB1110_1111:=n5_;have NB1111_1110:=n6_;clear n0_ n1_ n2_ n3_ n4_ n5_ n6_;clear hb hbox hg)|((with_reducible refine gate_dst (N:=3) rfl ?_);refine box_event ?hg (N:=3) ?hd (cs:=#[.int .i64 0,.int .i64 0,.int .i64 0]) (t:=143) ?hr ?_;(case hd=>rfl);(case hg=>rfl);(case hr=>first|(go_simp;done)|(go_simp;rfl));intro gb1112 hg w4 hbox hb;have n0_:=Aside0.mk (blk_below (g:=gb1110) (o:=.cells #[.int .i64 a0_0,.int .i64 a0_1,.int .i64 a0_2] 157 (0,0)) (by (with_reducible repeat (first|refine blk_drewN ?_ _|refine blk_drew ?_|refine blk_alloc ?_ _));exact BK1110.out) hb);have n1_:=Aside0.mk (blk_below (g:=gb1111) (o:=.cells #[.int .i64 0,.int .i64 0,.int .i64 0] 143 (0,0)) (by (with_reducible repeat (first|refine blk_drewN ?_ _|refine blk_drew ?_|refine blk_alloc ?_ _));exact BK1111.out) hb);have n2_:=Aside0.mk (below_step (by repeat (first|(with_reducible first|exact HB.out|apply below_alloc|apply pw_below_drewN|apply below_drew1|refine below_set ?_ GE1110.out|refine below_set ?_ GE1111.out)|exact HB.out)) hb);have n3_:=Aside0.mk (hbox);have n4_:=Aside0.mk ((by rw [hg];exact (below_size (by repeat (first|(with_reducible first|exact HB.out|apply below_alloc|apply pw_below_drewN|apply below_drew1|refine below_set ?_ GE1110.out|refine below_set ?_ GE1111.out)|exact HB.out))):w.heap.size≤gb1112));have n5_:=Aside0.mk ((by rw [hg];exact (below_size (by repeat (first|(with_reducible first|exact HB.out|apply below_alloc|apply pw_below_drewN|apply below_drew1|refine below_set ?_ GE1110.out|refine below_set ?_ GE1111.out)|exact HB.out))):w.heap.size≤gb1112));have n6_:=Aside0.mk ((by rw [hg];exact Nat.ne_of_lt (blk_lt (g:=gb1110) (o:=.cells #[.int .i64 a0_0,.int .i64 a0_1,.int .i64 a0_2] 157 (0,0)) (by (with_reducible repeat (first|refine blk_drewN ?_ _|refine blk_drew ?_|refine blk_alloc ?_ _));exact BK1110.out)):gb1110 ≠ gb1112));have n7_:=Aside0.mk ((by rw [hg];exact Nat.ne_of_gt (blk_lt (g:=gb1110) (o:=.cells #[.int .i64 a0_0,.int .i64 a0_1,.int .i64 a0_2] 157 (0,0)) (by (with_reducible repeat (first|refine blk_drewN ?_ _|refine blk_drew ?_|refine blk_alloc ?_ _));exact BK1110.out)):gb1112 ≠ gb1110));have n8_:=Aside0.mk ((by rw [hg];exact Nat.ne_of_lt (blk_lt (g:=gb1111) (o:=.cells #[.int .i64 0,.int .i64 0,.int .i64 0] 143 (0,0)) (by (with_reducible repeat (first|refine blk_drewN ?_ _|refine blk_drew ?_|refine blk_alloc ?_ _));exact BK1111.out)):gb1111 ≠ gb1112));have n9_:=Aside0.mk ((by rw [hg];exact Nat.ne_of_gt (blk_lt (g:=gb1111) (o:=.cells #[.int .i64 0,.int .i64 0,.int .i64 0] 143 (0,0)) (by (with_reducible repeat (first|refine blk_drewN ?_ _|refine blk_drew ?_|refine blk_alloc ?_ _));exact BK1111.out)):gb1112 ≠ gb1111));clear BK1110;clear BK1111;clear HB;have BK1110:=n0_;have BK1111:=n1_;have HB:=n2_;have BK1112:=n3_;have GW1112:=n4_;have GE1112:=n5_;have NB1110_1112:=n6_;have NB1112_1110:=n7_;have NB1111_1112:=n8_;have NB1112_1111:=n9_;clear n0_ n1_ n2_ n3_ n4_ n5_ n6_ n7_ n8_ n9_;clear hb hbox hg;have hnb5:=NB1110_1111.out;have hnc5:=NB1111_1110.out;have hnb6:=NB1110_1112.out;have hnc6:=NB1112_1110.out;have hcz7_0:w4.cell? ⟨gb1110,0,none⟩=some (.int .i64 a0_0):=(blk_cell BK1110.out 0).trans rfl;have hcz7_1:w4.cell? ⟨gb1110,1,none⟩=some (.int .i64 a0_1):=(blk_cell BK1110.out 1).trans rfl;have hcz7_2:w4.cell? ⟨gb1110,2,none⟩=some (.int .i64 a0_2):=(blk_cell BK1110.out 2).trans rfl;have hfz7_0:=blk_frozen BK1110.out 0;have hfz7_1:=blk_frozen BK1110.out 1;have hfz7_2:=blk_frozen BK1110.out 2;have hnb8:=NB1112_1111.out;have hnc8:=NB1111_1112.out;have hcz9_0:w4.cell? ⟨gb1112,0,none⟩=some (.int .i64 0):=(blk_cell BK1112.out 0).trans rfl;have hcz9_1:w4.cell? ⟨gb1112,1,none⟩=some (.int .i64 0):=(blk_cell BK1112.out 1).trans rfl;have hcz9_2:w4.cell? ⟨gb1112,2,none⟩=some (.int .i64 0):=(blk_cell BK1112.out 2).trans rfl;have hfz9_0:=blk_frozen BK1112.out 0;have hfz9_1:=blk_frozen BK1112.out 1;have hfz9_2:=blk_frozen BK1112.out 2;have hcz10_0:w4.cell? ⟨gb1111,0,none⟩=some (.int .i64 0):=(blk_cell BK1111.out 0).trans rfl;have hcz10_1:w4.cell? ⟨gb1111,1,none⟩=some (.int .i64 0):=(blk_cell BK1111.out 1).trans rfl;have hcz10_2:w4.cell? ⟨gb1111,2,none⟩=some (.int .i64 0):=(blk_cell BK1111.out 2).trans rfl;have hfz10_0:=blk_frozen BK1111.out 0;have hfz10_1:=blk_frozen BK1111.out 1;have hfz10_2:=blk_frozen BK1111.out 2))
 refine bodyPost_ret (results_cell_row rfl _ _ gb1111 143 #[.int .i64 a0_0,.int .i64 a0_1,.int .i64 a0_2] (0,0) _ rfl (by (with_reducible repeat (first|refine blk_drewN ?_ _|refine blk_drew ?_|refine blk_alloc ?_ _));refine blk_put (cs:=#[.int .i64 a0_0,.int .i64 a0_1,.int .i64 0]) ?_ 2 _ rfl;(with_reducible repeat (first|refine blk_drewN ?_ _|refine blk_drew ?_|refine blk_alloc ?_ _));refine blk_put (cs:=#[.int .i64 a0_0,.int .i64 0,.int .i64 0]) ?_ 1 _ rfl;(with_reducible repeat (first|refine blk_drewN ?_ _|refine blk_drew ?_|refine blk_alloc ?_ _));refine blk_put (cs:=#[.int .i64 0,.int .i64 0,.int .i64 0]) ?_ 0 _ rfl;(with_reducible repeat (first|refine blk_drewN ?_ _|refine blk_drew ?_|refine blk_alloc ?_ _));refine blk_far ?_ NB1111_1112.out _;(with_reducible repeat (first|refine blk_drewN ?_ _|refine blk_drew ?_|refine blk_alloc ?_ _));refine blk_far ?_ NB1111_1112.out _;(with_reducible repeat (first|refine blk_drewN ?_ _|refine blk_drew ?_|refine blk_alloc ?_ _));refine blk_far ?_ NB1111_1112.out _;(with_reducible repeat (first|refine blk_drewN ?_ _|refine blk_drew ?_|refine blk_alloc ?_ _));exact BK1111.out) Try.underlying143 rfl (by kernel_rfl)) rfl ?_
 exact ⟨by first|rfl|(simp [errW_none,errW_some] <;> rfl)|(simp [*,errW_none,errW_some] <;> rfl),by repeat (first|(with_reducible first|exact HB.out|apply below_alloc|apply pw_below_drewN|apply below_drew1|refine below_set ?_ GE1110.out|refine below_set ?_ GE1111.out|refine below_set ?_ GE1112.out)|exact HB.out)⟩
end Go.Proofs.Ytpdnabhpkdchjaa.P
namespace Go.Proofs.Ytpdnabhpkdchjaa.P
open Go.RowKit Go.Proofs.YtpdnabhpkdchjaaW.PrintWords Go.Proofs.YtpdnabhpkdchjaaW.PrintLast Go.Proofs.YtpdnabhpkdchjaaW.PrintMore
attribute [local go_sem] max2_int min2_int max_two min_two max_three min_three max_four min_four
set_option linter.unusedVariables false
set_option linter.unusedSimpArgs false
def laws_toPostS.l0:Nat→List (S157)→List (S143)→Int→Option ((List (S143)))
 | 0,_,_,_=>none
 | k+1,x0,x3,x4=>if x4<(x0.length:Int) then (if 0≤x4 then ((laws_toPost.f ((rd_T157 x0 x4).f0) ((rd_T157 x0 x4).f1) ((rd_T157 x0 x4).f2)).bind fun bt1117=>(if x4<(x3.length:Int) then (laws_toPostS.l0 k x0 (x3.set (x4:Int).toNat (⟨bt1117.1,bt1117.2.1,bt1117.2.2⟩:S143)) (wrap64 (x4+1))) else (none))) else (none)) else (some x3)
def laws_toPostS.f (k:Nat) (l0:List (S157)):Option ((List (S143))):=if 0≤(l0.length:Int) then (if ((l0.length:Int):Int).toNat≤11728124029610 then (laws_toPostS.l0 k l0 (List.replicate ((l0.length:Int):Int).toNat z143) 0) else (none)) else (none)
set_option maxHeartbeats 8000000 in
set_option maxRecDepth 100000 in
theorem laws_toPostS.calls (k:Nat) (A0:Option Addr) (c0:Nat) (l0:List (S157)) (r:List (S143)) (w:World) (hr0:Kd.C k157 w A0 l0.length l0) (hc0:l0.length≤c0) (h:laws_toPostS.f k l0=some r) :
  Calls Try.prog 81 #[.slice A0 l0.length c0] w fun e w'=>∃ v0_:Value,e=.returned (v0_)∧Kd.R k143 143 w' w.heap.size (fun _=>True) v0_ r∧Below w.heap.size w w':=by
 have hu157:=Try.underlying157
 have hu143:=Try.underlying143
 have HR0:=Aside0.mk hr0
 have HC0:=Aside0.mk hc0
 clear hr0 hc0
 have HB:=Aside0.mk (Below.refl w.heap.size w)
 have H:(if 0≤(l0.length:Int) then (if ((l0.length:Int):Int).toNat≤11728124029610 then (laws_toPostS.l0 k l0 (List.replicate ((l0.length:Int):Int).toNat z143) 0) else (none)) else (none))=some r:=h
 clear h
 by_cases c2:0≤(l0.length:Int)
 ·rw [if_pos c2] at H
  have c2b0:=eq_true c2
  have c2b1:decide (0≤(l0.length:Int))=true:=decide_eq_true c2
  clear c2
  by_cases c3:((l0.length:Int):Int).toNat≤11728124029610
  ·rw [if_pos c3] at H
   have c3b0:=eq_true c3
   have c3b1:decide (((l0.length:Int):Int).toNat≤11728124029610)=true:=decide_eq_true c3
   clear c3
   obtain ⟨y1113,hy1113⟩:∃ y_:List (S143),y_=(List.replicate ((l0.length:Int):Int).toNat z143):=⟨_,rfl⟩
   replace H:(laws_toPostS.l0 k l0 y1113 0)=some r:=by first|(rw [hy1113];with_reducible exact H)|(have H2_:=(Option.bind_some _ _).symm.trans H;rw [hy1113];with_reducible exact H2_)|(have H2_:=(Option.bind_some _ _).symm.trans H;with_reducible exact H2_)|with_reducible exact H|(rw [hy1113];exact H)|exact H
   have Ny1113:=Aside0.mk hy1113
   clear hy1113
   have H':=Aside0.mk H
   clear H
   go_enter Try.func81,Try.ntmps81
   go_wp2_with (first|((with_reducible refine gate_dst (N:=7) rfl ?_);refine Kd.R_make k143 _ 143 rfl (N:=7) rfl 96 _ _ rfl (l0.length:Int) rfl rfl Try.underlying96 (.agg #[(.int .i64 0),(.int .i64 0),(.int .i64 0)]) 24 info143 rfl (by decide) (by omega) z143 (ok:=fun _=>True) (okp:=fun _=>True) (k143_mkM _ _ _ z143 ) (fun _ hk=>hk) trivial (of_decide_eq_true (by first|(with_reducible assumption)|assumption)) (Nat.le_trans (Nat.mul_le_mul_right _ (of_decide_eq_true (by first|(with_reducible assumption)|assumption):(l0.length:Int).toNat≤11728124029610)) (by omega)) (Below.refl _ _) (Nat.le_refl _) ?_;intro v1114 w4 ho5 hb hg_ hnew_;clear hg_ hnew_;(first|rw [← Ny1113.out] at ho5|(simp only [Int.reduceToNat] at ho5;rw [← Ny1113.out] at ho5));have n0_:=Aside0.mk (Kd.R_lower ho5 (below_size (by repeat (first|(with_reducible first|exact HB.out|apply below_alloc|apply pw_below_drewN|apply below_drew1)|exact HB.out))));have n1_:=Aside0.mk (below_step (by repeat (first|(with_reducible first|exact HB.out|apply below_alloc|apply pw_below_drewN|apply below_drew1)|exact HB.out)) hb);clear HB;have HO1115:=n0_;have HB:=n1_;clear n0_ n1_;clear hb ho5))
   go_loopg [4] k (fun kq v4 w'=>∃ (x3_1:List (S143)) (x4_1:Int),v4=.int .i64 x4_1∧Aside0 (laws_toPostS.l0 kq l0 x3_1 x4_1=some r)∧Aside0 (kq≤k)∧Aside0 (Kd.R k143 143 w' w.heap.size (fun _=>True) v1114 x3_1)∧Aside0 (Below w.heap.size w w'))
   case atStart=>exact ⟨(y1113),(0),(by first|rfl|(simp;done)|(simp [*];done)),H',⟨Nat.le_refl _⟩,⟨by (with_reducible repeat (first|apply Kd.R_alloc|apply Kd.R_drewN|apply Kd.R_drew));exact HO1115.out⟩,⟨by repeat (first|(with_reducible first|exact HB.out|apply below_alloc|apply pw_below_drewN|apply below_drew1)|exact HB.out)⟩⟩
   case round =>
    clear H'
    try clear c2
    try clear c2b0
    try clear c2b1
    try clear p2
    try clear c3
    try clear c3b0
    try clear c3b1
    obtain ⟨x3_1,x4_1,rfl,HA,HK1,HO_3,HB⟩:=hrel
    cases gk with
    | zero=>exact absurd HA.out (by simp [laws_toPostS.l0])
    | succ k1 =>
     have H:=HA.out
     clear HA
     simp only [laws_toPostS.l0] at H
     by_cases c6:x4_1<(l0.length:Int)
     ·rw [if_pos c6] at H
      have c6b0:decide (x4_1<(l0.length:Int))=true:=decide_eq_true c6
      clear c6
      by_cases c7:0≤x4_1
      ·rw [if_pos c7] at H
       have c7b0:decide (0≤x4_1)=true:=decide_eq_true c7
       clear c7
       replace H:=Option.bind_eq_some_iff.mp H
       obtain ⟨⟨t1117,t1118,t1119⟩,A80,H⟩:=H
       replace H:(if x4_1<(x3_1.length:Int) then (laws_toPostS.l0 k1 l0 (x3_1.set (x4_1:Int).toNat (⟨t1117,t1118,t1119⟩:S143)) (wrap64 (x4_1+1))) else (none))=some r:=H
       have A8:=Aside0.mk A80
       clear A80
       by_cases c9:x4_1<(x3_1.length:Int)
       ·rw [if_pos c9] at H
        have c9b0:decide (x4_1<(x3_1.length:Int))=true:=decide_eq_true c9
        clear c9
        obtain ⟨y1120,hy1120⟩:∃ y_:List (S143),y_=(x3_1.set (x4_1:Int).toNat (⟨t1117,t1118,t1119⟩:S143)):=⟨_,rfl⟩
        replace H:(laws_toPostS.l0 k1 l0 y1120 (wrap64 (x4_1+1)))=some r:=by first|(rw [hy1120];with_reducible exact H)|(have H2_:=(Option.bind_some _ _).symm.trans H;rw [hy1120];with_reducible exact H2_)|(have H2_:=(Option.bind_some _ _).symm.trans H;with_reducible exact H2_)|with_reducible exact H|(rw [hy1120];exact H)|exact H
        have Ny1120:=Aside0.mk hy1120
        clear hy1120
        have H':=Aside0.mk H
        clear H
        have p1116:0≤(x4_1:Int):=of_decide_eq_true (by first|(with_reducible assumption)|assumption)
        have q1116:x4_1<(l0.length:Int):=of_decide_eq_true (by first|(with_reducible assumption)|assumption)
        obtain ⟨ad1116,e1116,hx1116_0,hx1116_1,hx1116_2⟩:=at_T157 HR0.out x4_1 p1116 q1116
        cases e1116
        replace hx1116_0:=(HB.out.cell (World.block_lt_of_cell? w _ hx1116_0)).trans hx1116_0
        replace hx1116_1:=(HB.out.cell (World.block_lt_of_cell? w _ hx1116_1)).trans hx1116_1
        replace hx1116_2:=(HB.out.cell (World.block_lt_of_cell? w _ hx1116_2)).trans hx1116_2
        replace p1116:=eq_true p1116
        replace q1116:=eq_true q1116
        go_wp2_with (first|((with_reducible refine gate_callee (f:=126) rfl ?_);refine goesL_ (some 20) rfl rfl Try.func126 (by kernel_rfl) rfl #[.agg #[.int .i64 ((rd_T157 l0 x4_1).f0),.int .i64 ((rd_T157 l0 x4_1).f1),.int .i64 ((rd_T157 l0 x4_1).f2)]] rfl (by (try simp only [List.map_toArray,List.map_cons,List.map_nil]);first|done|rfl|(simp only [List.length_drop,List.length_take];rfl)) ?_;(with_reducible refine (laws_toPost.calls ((rd_T157 l0 x4_1).f0) ((rd_T157 l0 x4_1).f1) ((rd_T157 l0 x4_1).f2) t1117 t1118 t1119 _ A8.out).mono ?_);rintro e w11 ⟨rfl,hb⟩;refine ⟨_,rfl,?_⟩;have n0_:=Aside0.mk (Kd.R_below (by (with_reducible repeat (first|apply Kd.R_alloc|apply Kd.R_drewN|apply Kd.R_drew));exact HO_3.out) hb);have n1_:=Aside0.mk (below_step (by repeat (first|(with_reducible first|exact HB.out|apply below_alloc|apply pw_below_drewN|apply below_drew1)|exact HB.out)) hb);clear HO_3;clear HB;have HO_3:=n0_;have HB:=n1_;clear n0_ n1_;(try clear hb);(try clear hb2);(try clear hk);(try clear hi);have p10:0≤(x4_1:Int):=of_decide_eq_true (by first|(with_reducible assumption)|assumption);have q10:(x4_1:Int)<((x3_1.length:Int):Int):=of_decide_eq_true (by first|(with_reducible assumption)|assumption);obtain ⟨go10,co10,eo10,gb10,gl10,cl10,HG10⟩:=Kd.R_form HO_3.out (by omega);(first|cases eo10|(injection eo10 with ea_ en_ ec_;(first|subst ea_|(injection ea_ with ea_;subst ea_));subst ec_;clear en_));have GB10:=Aside0.mk gb10;have GG10:=Aside0.mk HG10;clear gb10 gl10 HG10;obtain ⟨ce10,hcl10,hM10,hcc10,hfr10⟩:=Kd.R_elem HO_3.out z143 (x4_1:Int) p10 q10;obtain rfl:=k143_openM hM10;have hx10_0:w11.cell? ⟨go10,(x4_1:Int).toNat * 3,none⟩=some (.int .i64 ((rd_T143 x3_1 x4_1).f0)):=hcc10 0 _ rfl;have hx10_1:w11.cell? ⟨go10,(x4_1:Int).toNat * 3+1,none⟩=some (.int .i64 ((rd_T143 x3_1 x4_1).f1)):=hcc10 1 _ rfl;have hx10_2:w11.cell? ⟨go10,(x4_1:Int).toNat * 3+2,none⟩=some (.int .i64 ((rd_T143 x3_1 x4_1).f2)):=hcc10 2 _ rfl;have hf10_0:w11.frozen? ⟨go10,(x4_1:Int).toNat * 3,none⟩=false:=hfr10 0;have hf10_1:w11.frozen? ⟨go10,(x4_1:Int).toNat * 3+1,none⟩=false:=hfr10 1;have hf10_2:w11.frozen? ⟨go10,(x4_1:Int).toNat * 3+2,none⟩=false:=hfr10 2;clear hcl10 hcc10 hfr10 hM10;replace p10:=eq_true p10;replace q10:=eq_true q10;have HX12:=Aside0.mk (show Kd.R k143 143 w11 w.heap.size (fun _=>True) (.slice (some ⟨go10,0,none⟩) x3_1.length co10) x3_1 from (by (with_reducible repeat (first|apply Kd.R_alloc|apply Kd.R_drewN|apply Kd.R_drew));exact HO_3.out));obtain ⟨ce12,hcl12,hM12,hcc12,hfr12⟩:=Kd.R_elem HX12.out z143 (x4_1:Int) (of_decide_eq_true (by first|(with_reducible assumption)|assumption)) (by have h_:(x4_1:Int)<((x3_1.length:Int):Int):=of_decide_eq_true (by first|(with_reducible assumption)|assumption);first|exact h_|(have e_:=(Kd.R_reads' HO_3.out).1;omega)|simpa using h_);obtain rfl:=k143_openM hM12;have HP12:=Kd.R_seg HX12.out (x4_1:Int) (of_decide_eq_true (by first|(with_reducible assumption)|assumption)) (by have h_:(x4_1:Int)<((x3_1.length:Int):Int):=of_decide_eq_true (by first|(with_reducible assumption)|assumption);first|exact h_|(have e_:=(Kd.R_reads' HO_3.out).1;omega)|simpa using h_) (seg:=[.int .i64 t1117,.int .i64 t1118,.int .i64 t1119]) (j:=0) hcl12 hcc12 (show 3≤3 from by decide) (x':=(⟨t1117,t1118,t1119⟩:S143)) (k143_mkM _ _ _ (⟨t1117,t1118,t1119⟩:S143) ) (fun _ hk=>hk);have hx12_0:=hcc12 0 _ rfl;(try simp only [show (k143).sz=3 from rfl,Nat.mul_one,Nat.add_zero] at hx12_0);have hf12_0:=hfr12 0;(try simp only [show (k143).sz=3 from rfl,Nat.mul_one,Nat.add_zero] at hf12_0);have hx12_1:=hcc12 1 _ rfl;(try simp only [show (k143).sz=3 from rfl,Nat.mul_one,Nat.add_zero] at hx12_1);have hf12_1:=hfr12 1;(try simp only [show (k143).sz=3 from rfl,Nat.mul_one,Nat.add_zero] at hf12_1);have hx12_2:=hcc12 2 _ rfl;(try simp only [show (k143).sz=3 from rfl,Nat.mul_one,Nat.add_zero] at hx12_2);have hf12_2:=hfr12 2;(try simp only [show (k143).sz=3 from rfl,Nat.mul_one,Nat.add_zero] at hf12_2);clear hcl12 hcc12 hfr12 hM12)|((with_reducible refine gate_store (t:=143) (p:=21) rfl ?_);refine store_event (t:=143) (p:=21) (v:=?vo_w13) (w1:=(((w11.setCell ⟨go10,(x4_1:Int).toNat * 3,none⟩ (.int .i64 t1117)).setCell ⟨go10,(x4_1:Int).toNat * 3+1,none⟩ (.int .i64 t1118)).setCell ⟨go10,(x4_1:Int).toNat * 3+2,none⟩ (.int .i64 t1119))) ?hg ?ho ?hn ?hr ?_;(case ho=>rfl);(case hg=>rfl);(case hn=>rfl);(case hr=>first|(go_simp;done)|(go_simp;rfl));intro w13 hw;have hg:w11.grownBy w13 (some go10):=(by rw [hw];exact HP12.2);have hp_:Kd.R k143 143 w13 w.heap.size (fun _=>True) (.slice (some ⟨go10,0,none⟩) x3_1.length co10) y1120:=(by rw [hw,Ny1120.out];exact HP12.1);clear HP12;have n0_:=Aside0.mk (hp_);have n1_:=Aside0.mk ((by rw [hw];exact below_set (below_set (below_set (HB.out) GB10.out) GB10.out) GB10.out:Below w.heap.size w w13));clear HO_3;clear HB;have HO_3:=n0_;have HB:=n1_;clear n0_ n1_;clear hg hw hp_))
        go_roundg k1
        case measure=>have:=HK1.out;omega
        case rel=>exact ⟨(y1120),(wrap64 (x4_1+1)),(by first|rfl|(simp;done)|(simp [*];done)),H',⟨by have:=HK1.out;omega⟩,⟨by (with_reducible repeat (first|apply Kd.R_alloc|apply Kd.R_drewN|apply Kd.R_drew));exact HO_3.out⟩,⟨by repeat (first|(with_reducible first|exact HB.out|apply below_alloc|apply pw_below_drewN|apply below_drew1)|exact HB.out)⟩⟩
       rw [if_neg c9] at H
       exact absurd H (by simp)
      rw [if_neg c7] at H
      exact absurd H (by simp)
     rw [if_neg c6] at H
     have c6b0:decide (x4_1<(l0.length:Int))=false:=decide_eq_false c6
     clear c6
     obtain rfl:=Option.some.inj H
     go_wp2
     go_ret
     exact ⟨_,by first|rfl|(simp [errW_none,errW_some] <;> rfl)|(simp [*,errW_none,errW_some] <;> rfl),by (with_reducible repeat (first|apply Kd.R_alloc|apply Kd.R_drewN|apply Kd.R_drew));exact HO_3.out,by repeat (first|(with_reducible first|exact HB.out|apply below_alloc|apply pw_below_drewN|apply below_drew1)|exact HB.out)⟩
  rw [if_neg c3] at H
  exact absurd H (by simp)
 rw [if_neg c2] at H
 exact absurd H (by simp)
end Go.Proofs.Ytpdnabhpkdchjaa.P
namespace Go.Proofs.Ytpdnabhpkdchjaa.P
open Go.RowKit Go.Proofs.YtpdnabhpkdchjaaW.PrintWords Go.Proofs.YtpdnabhpkdchjaaW.PrintLast Go.Proofs.YtpdnabhpkdchjaaW.PrintMore
attribute [local go_sem] max2_int min2_int max_two min_two max_three min_three max_four min_four
set_option linter.unusedVariables false
set_option linter.unusedSimpArgs false
def laws_toIntS.l0:Nat→List Int→List Int→Int→Option (List Int)
 | 0,_,_,_=>none
 | k+1,x0,x3,x4=>if x4<(x0.length:Int) then (if 0≤x4 then (if x4<(x3.length:Int) then (laws_toIntS.l0 k x0 (x3.set (x4:Int).toNat (rd x0 x4)) (wrap64 (x4+1))) else (none)) else (none)) else (some x3)
def laws_toIntS.f (k:Nat) (l0:List Int):Option (List Int):=if 0≤(l0.length:Int) then (if ((l0.length:Int):Int).toNat≤35184372088832 then (laws_toIntS.l0 k l0 (List.replicate ((l0.length:Int):Int).toNat 0) 0) else (none)) else (none)
set_option maxHeartbeats 8000000 in
set_option maxRecDepth 100000 in
theorem laws_toIntS.calls (k:Nat) (A0:Option Addr) (c0:Nat) (l0:List Int) (r:List Int) (w:World) (hr0:Kd.C (Kd.int .i64) w A0 l0.length l0) (hc0:l0.length≤c0) (h:laws_toIntS.f k l0=some r) :
  Calls Try.prog 82 #[.slice A0 l0.length c0] w fun e w'=>∃ v0_:Value,e=.returned (v0_)∧Kd.R (Kd.int .i64) 3 w' w.heap.size (fun _=>True) v0_ r∧Below w.heap.size w w':=by
 have HR0:=Aside0.mk hr0
 have HC0:=Aside0.mk hc0
 clear hr0 hc0
 have HB:=Aside0.mk (Below.refl w.heap.size w)
 have H:(if 0≤(l0.length:Int) then (if ((l0.length:Int):Int).toNat≤35184372088832 then (laws_toIntS.l0 k l0 (List.replicate ((l0.length:Int):Int).toNat 0) 0) else (none)) else (none))=some r:=h
 clear h
 by_cases c2:0≤(l0.length:Int)
 ·rw [if_pos c2] at H
  have c2b0:=eq_true c2
  have c2b1:decide (0≤(l0.length:Int))=true:=decide_eq_true c2
  clear c2
  by_cases c3:((l0.length:Int):Int).toNat≤35184372088832
  ·rw [if_pos c3] at H
   have c3b0:=eq_true c3
   have c3b1:decide (((l0.length:Int):Int).toNat≤35184372088832)=true:=decide_eq_true c3
   clear c3
   obtain ⟨y1121,hy1121⟩:∃ y_:List Int,y_=(List.replicate ((l0.length:Int):Int).toNat 0):=⟨_,rfl⟩
   replace H:(laws_toIntS.l0 k l0 y1121 0)=some r:=by first|(rw [hy1121];with_reducible exact H)|(have H2_:=(Option.bind_some _ _).symm.trans H;rw [hy1121];with_reducible exact H2_)|(have H2_:=(Option.bind_some _ _).symm.trans H;with_reducible exact H2_)|with_reducible exact H|(rw [hy1121];exact H)|exact H
   have Ny1121:=Aside0.mk hy1121
   clear hy1121
   have H':=Aside0.mk H
   clear H
   go_enter Try.func82,Try.ntmps82
   go_wp2_with (first|((with_reducible refine gate_dst (N:=7) rfl ?_);refine Kd.R_make (Kd.int .i64) _ 3 rfl (N:=7) rfl 59 _ _ rfl (l0.length:Int) rfl rfl Try.underlying59 (.int .i64 0) 8 info3 rfl (by decide) (by omega) 0 (ok:=fun _=>True) (okp:=fun _=>True) rfl (fun _ hk=>hk) trivial (of_decide_eq_true (by first|(with_reducible assumption)|assumption)) (Nat.le_trans (Nat.mul_le_mul_right _ (of_decide_eq_true (by first|(with_reducible assumption)|assumption):(l0.length:Int).toNat≤35184372088832)) (by omega)) (Below.refl _ _) (Nat.le_refl _) ?_;intro v1122 w4 ho5 hb hg_ hnew_;clear hg_ hnew_;(first|rw [← Ny1121.out] at ho5|(simp only [Int.reduceToNat] at ho5;rw [← Ny1121.out] at ho5));have n0_:=Aside0.mk (Kd.R_lower ho5 (below_size (by repeat (first|(with_reducible first|exact HB.out|apply below_alloc|apply pw_below_drewN|apply below_drew1)|exact HB.out))));have n1_:=Aside0.mk (below_step (by repeat (first|(with_reducible first|exact HB.out|apply below_alloc|apply pw_below_drewN|apply below_drew1)|exact HB.out)) hb);clear HB;have HO1123:=n0_;have HB:=n1_;clear n0_ n1_;clear hb ho5))
   go_loopg [4] k (fun kq v4 w'=>∃ (x3_1:List Int) (x4_1:Int),v4=.int .i64 x4_1∧Aside0 (laws_toIntS.l0 kq l0 x3_1 x4_1=some r)∧Aside0 (kq≤k)∧Aside0 (Kd.R (Kd.int .i64) 3 w' w.heap.size (fun _=>True) v1122 x3_1)∧Aside0 (Below w.heap.size w w'))
   case atStart=>exact ⟨(y1121),(0),(by first|rfl|(simp;done)|(simp [*];done)),H',⟨Nat.le_refl _⟩,⟨by (with_reducible repeat (first|apply Kd.R_alloc|apply Kd.R_drewN|apply Kd.R_drew));exact HO1123.out⟩,⟨by repeat (first|(with_reducible first|exact HB.out|apply below_alloc|apply pw_below_drewN|apply below_drew1)|exact HB.out)⟩⟩
   case round =>
    clear H'
    try clear c2
    try clear c2b0
    try clear c2b1
    try clear p2
    try clear c3
    try clear c3b0
    try clear c3b1
    obtain ⟨x3_1,x4_1,rfl,HA,HK1,HO_3,HB⟩:=hrel
    cases gk with
    | zero=>exact absurd HA.out (by simp [laws_toIntS.l0])
    | succ k1 =>
     have H:=HA.out
     clear HA
     simp only [laws_toIntS.l0] at H
     by_cases c6:x4_1<(l0.length:Int)
     ·rw [if_pos c6] at H
      have c6b0:decide (x4_1<(l0.length:Int))=true:=decide_eq_true c6
      clear c6
      by_cases c7:0≤x4_1
      ·rw [if_pos c7] at H
       have c7b0:decide (0≤x4_1)=true:=decide_eq_true c7
       clear c7
       by_cases c8:x4_1<(x3_1.length:Int)
       ·rw [if_pos c8] at H
        have c8b0:decide (x4_1<(x3_1.length:Int))=true:=decide_eq_true c8
        clear c8
        obtain ⟨y1125,hy1125⟩:∃ y_:List Int,y_=(x3_1.set (x4_1:Int).toNat (rd l0 x4_1)):=⟨_,rfl⟩
        replace H:(laws_toIntS.l0 k1 l0 y1125 (wrap64 (x4_1+1)))=some r:=by first|(rw [hy1125];with_reducible exact H)|(have H2_:=(Option.bind_some _ _).symm.trans H;rw [hy1125];with_reducible exact H2_)|(have H2_:=(Option.bind_some _ _).symm.trans H;with_reducible exact H2_)|with_reducible exact H|(rw [hy1125];exact H)|exact H
        have Ny1125:=Aside0.mk hy1125
        clear hy1125
        have H':=Aside0.mk H
        clear H
        have p1124:0≤(x4_1:Int):=of_decide_eq_true (by first|(with_reducible assumption)|assumption)
        have q1124:x4_1<(l0.length:Int):=of_decide_eq_true (by first|(with_reducible assumption)|assumption)
        obtain ⟨ad1124,e1124,hx1124_0⟩:=Kd.at_int HR0.out x4_1 p1124 q1124
        cases e1124
        replace hx1124_0:=(HB.out.cell (World.block_lt_of_cell? w _ hx1124_0)).trans hx1124_0
        replace p1124:=eq_true p1124
        replace q1124:=eq_true q1124
        have p9:0≤(x4_1:Int):=of_decide_eq_true (by first|(with_reducible assumption)|assumption)
        have q9:(x4_1:Int)<((x3_1.length:Int):Int):=of_decide_eq_true (by first|(with_reducible assumption)|assumption)
        obtain ⟨go9,co9,eo9,gb9,gl9,cl9,HG9⟩:=Kd.R_form HO_3.out (by omega)
        (first|cases eo9|(injection eo9 with ea_ en_ ec_;(first|subst ea_|(injection ea_ with ea_;subst ea_));subst ec_;clear en_))
        have GB9:=Aside0.mk gb9
        have GG9:=Aside0.mk HG9
        clear gb9 gl9 HG9
        obtain ⟨hx9_0,hf9_0⟩:=Kd.R_celln 0 HO_3.out (x4_1:Int) p9 q9
        replace p9:=eq_true p9
        replace q9:=eq_true q9
        have HP10:=Kd.R_putg HO_3.out (x4_1:Int) (rd l0 x4_1)
        go_wp2_with (first|((with_reducible refine gate_store (t:=3) (p:=20) rfl ?_);refine store_event (t:=3) (p:=20) (v:=?vo_w11) (w1:=(wr.setCell ⟨go9,(x4_1:Int).toNat,none⟩ (.int .i64 (rd l0 x4_1)))) ?hg ?ho ?hn ?hr ?_;(case ho=>rfl);(case hg=>rfl);(case hn=>rfl);(case hr=>first|(go_simp;done)|(go_simp;rfl));intro w11 hw;have hg:wr.grownBy w11 (some go9):=(by rw [hw];exact HP10.2);have hp_:Kd.R (Kd.int .i64) 3 w11 w.heap.size (fun _=>True) (.slice (some ⟨go9,0,none⟩) x3_1.length co9) y1125:=(by rw [hw,Ny1125.out];exact HP10.1);clear HP10;have n0_:=Aside0.mk (hp_);have n1_:=Aside0.mk ((by rw [hw];exact below_set (HB.out) GB9.out:Below w.heap.size w w11));clear HO_3;clear HB;have HO_3:=n0_;have HB:=n1_;clear n0_ n1_;clear hg hw hp_))
        go_roundg k1
        case measure=>have:=HK1.out;omega
        case rel=>exact ⟨(y1125),(wrap64 (x4_1+1)),(by first|rfl|(simp;done)|(simp [*];done)),H',⟨by have:=HK1.out;omega⟩,⟨by (with_reducible repeat (first|apply Kd.R_alloc|apply Kd.R_drewN|apply Kd.R_drew));exact HO_3.out⟩,⟨by repeat (first|(with_reducible first|exact HB.out|apply below_alloc|apply pw_below_drewN|apply below_drew1)|exact HB.out)⟩⟩
       rw [if_neg c8] at H
       exact absurd H (by simp)
      rw [if_neg c7] at H
      exact absurd H (by simp)
     rw [if_neg c6] at H
     have c6b0:decide (x4_1<(l0.length:Int))=false:=decide_eq_false c6
     clear c6
     obtain rfl:=Option.some.inj H
     go_wp2
     go_ret
     exact ⟨_,by first|rfl|(simp [errW_none,errW_some] <;> rfl)|(simp [*,errW_none,errW_some] <;> rfl),by (with_reducible repeat (first|apply Kd.R_alloc|apply Kd.R_drewN|apply Kd.R_drew));exact HO_3.out,by repeat (first|(with_reducible first|exact HB.out|apply below_alloc|apply pw_below_drewN|apply below_drew1)|exact HB.out)⟩
  rw [if_neg c3] at H
  exact absurd H (by simp)
 rw [if_neg c2] at H
 exact absurd H (by simp)
end Go.Proofs.Ytpdnabhpkdchjaa.P
namespace Go.Proofs.Ytpdnabhpkdchjaa.P
open Go.RowKit Go.Proofs.YtpdnabhpkdchjaaW.PrintWords Go.Proofs.YtpdnabhpkdchjaaW.PrintLast Go.Proofs.YtpdnabhpkdchjaaW.PrintMore
attribute [local go_sem] max2_int min2_int max_two min_two max_three min_three max_four min_four
set_option linter.unusedVariables false
set_option linter.unusedSimpArgs false
def laws_eqPost.f (a0_0:Int) (a0_1:Int) (a0_2:Int) (a1_0:Int) (a1_1:Int) (a1_2:Int):Option (Bool):=if a0_0=a1_0 then (if a0_1=a1_1 then (if a0_2=a1_2 then (some true) else (some false)) else (some false)) else (some false)
set_option maxHeartbeats 8000000 in
set_option maxRecDepth 100000 in
theorem laws_eqPost.calls (a0_0:Int) (a0_1:Int) (a0_2:Int) (a1_0:Int) (a1_1:Int) (a1_2:Int) (r:Bool) (w:World) (h:laws_eqPost.f a0_0 a0_1 a0_2 a1_0 a1_1 a1_2=some r) :
  Calls Try.prog 127 #[.agg #[.int .i64 a0_0,.int .i64 a0_1,.int .i64 a0_2],.agg #[.int .i64 a1_0,.int .i64 a1_1,.int .i64 a1_2]] w fun e w'=>e=.returned (.bool r)∧Below w.heap.size w w':=by
 have hu143:=Try.underlying143
 have HB:=Aside0.mk (Below.refl w.heap.size w)
 have H:(if a0_0=a1_0 then (if a0_1=a1_1 then (if a0_2=a1_2 then (some true) else (some false)) else (some false)) else (some false))=some r:=h
 clear h
 by_cases c3:a0_0=a1_0
 ·rw [if_pos c3] at H
  have c3b0:(a0_0==a1_0)=true:=beq_iff_eq.mpr c3
  have c3b1:(a0_0 != a1_0)=false:=bne_eq_false_iff_eq.mpr c3
  clear c3
  by_cases c4:a0_1=a1_1
  ·rw [if_pos c4] at H
   have c4b0:(a0_1==a1_1)=true:=beq_iff_eq.mpr c4
   have c4b1:(a0_1 != a1_1)=false:=bne_eq_false_iff_eq.mpr c4
   clear c4
   by_cases c5:a0_2=a1_2
   ·rw [if_pos c5] at H
    have c5b0:(a0_2==a1_2)=true:=beq_iff_eq.mpr c5
    have c5b1:(a0_2 != a1_2)=false:=bne_eq_false_iff_eq.mpr c5
    clear c5
    obtain rfl:=Option.some.inj H
    go_enter Try.func127,Try.ntmps127
    go_wp2_with (first|((with_reducible refine gate_dst (N:=2) rfl ?_);refine box_event ?hg (N:=2) ?hd (cs:=#[.int .i64 a0_0,.int .i64 a0_1,.int .i64 a0_2]) (t:=143) ?hr ?_;(case hd=>rfl);(case hg=>rfl);(case hr=>first|(go_simp;done)|(go_simp;rfl));intro gb1126 hg w6 hbox hb;have n0_:=Aside0.mk (below_step (by repeat (first|(with_reducible first|exact HB.out|apply below_alloc|apply pw_below_drewN|apply below_drew1)|exact HB.out)) hb);have n1_:=Aside0.mk (hbox);have n2_:=Aside0.mk ((by rw [hg];exact (below_size (by repeat (first|(with_reducible first|exact HB.out|apply below_alloc|apply pw_below_drewN|apply below_drew1)|exact HB.out))):w.heap.size≤gb1126));have n3_:=Aside0.mk ((by rw [hg];exact (below_size (by repeat (first|(with_reducible first|exact HB.out|apply below_alloc|apply pw_below_drewN|apply below_drew1)|exact HB.out))):w.heap.size≤gb1126));clear HB;have HB:=n0_;have BK1126:=n1_;have GW1126:=n2_;have GE1126:=n3_;clear n0_ n1_ n2_ n3_;clear hb hbox hg)|((with_reducible refine gate_dst (N:=3) rfl ?_);refine box_event ?hg (N:=3) ?hd (cs:=#[.int .i64 a1_0,.int .i64 a1_1,.int .i64 a1_2]) (t:=143) ?hr ?_;(case hd=>rfl);(case hg=>rfl);(case hr=>first|(go_simp;done)|(go_simp;rfl));intro gb1127 hg w7 hbox hb;have n0_:=Aside0.mk (blk_below (g:=gb1126) (o:=.cells #[.int .i64 a0_0,.int .i64 a0_1,.int .i64 a0_2] 143 (0,0)) (by (with_reducible repeat (first|refine blk_drewN ?_ _|refine blk_drew ?_|refine blk_alloc ?_ _));exact BK1126.out) hb);have n1_:=Aside0.mk (below_step (by repeat (first|(with_reducible first|exact HB.out|apply below_alloc|apply pw_below_drewN|apply below_drew1|refine below_set ?_ GE1126.out)|exact HB.out)) hb);have n2_:=Aside0.mk (hbox);have n3_:=Aside0.mk ((by rw [hg];exact (below_size (by repeat (first|(with_reducible first|exact HB.out|apply below_alloc|apply pw_below_drewN|apply below_drew1|refine below_set ?_ GE1126.out)|exact HB.out))):w.heap.size≤gb1127));have n4_:=Aside0.mk ((by rw [hg];exact (below_size (by repeat (first|(with_reducible first|exact HB.out|apply below_alloc|apply pw_below_drewN|apply below_drew1|refine below_set ?_ GE1126.out)|exact HB.out))):w.heap.size≤gb1127));have n5_:=Aside0.mk ((by rw [hg];exact Nat.ne_of_lt (blk_lt (g:=gb1126) (o:=.cells #[.int .i64 a0_0,.int .i64 a0_1,.int .i64 a0_2] 143 (0,0)) (by (with_reducible repeat (first|refine blk_drewN ?_ _|refine blk_drew ?_|refine blk_alloc ?_ _));exact BK1126.out)):gb1126 ≠ gb1127));have n6_:=Aside0.mk ((by rw [hg];exact Nat.ne_of_gt (blk_lt (g:=gb1126) (o:=.cells #[.int .i64 a0_0,.int .i64 a0_1,.int .i64 a0_2] 143 (0,0)) (by (with_reducible repeat (first|refine blk_drewN ?_ _|refine blk_drew ?_|refine blk_alloc ?_ _));exact BK1126.out)):gb1127 ≠ gb1126));clear BK1126;clear HB;have BK1126:=n0_;have HB:=n1_;have BK1127:=n2_;have GW1127:=n3_;have GE1127:=n4_;have NB1126_1127:=n5_;have NB1127_1126:=n6_;clear n0_ n1_ n2_ n3_ n4_ n5_ n6_;clear hb hbox hg;have hnb8:=NB1126_1127.out;have hnc8:=NB1127_1126.out;have hcz9_0:w7.cell? ⟨gb1126,0,none⟩=some (.int .i64 a0_0):=(blk_cell BK1126.out 0).trans rfl;have hcz9_1:w7.cell? ⟨gb1126,1,none⟩=some (.int .i64 a0_1):=(blk_cell BK1126.out 1).trans rfl;have hcz9_2:w7.cell? ⟨gb1126,2,none⟩=some (.int .i64 a0_2):=(blk_cell BK1126.out 2).trans rfl;have hfz9_0:=blk_frozen BK1126.out 0;have hfz9_1:=blk_frozen BK1126.out 1;have hfz9_2:=blk_frozen BK1126.out 2;have hcz10_0:w7.cell? ⟨gb1127,0,none⟩=some (.int .i64 a1_0):=(blk_cell BK1127.out 0).trans rfl;have hcz10_1:w7.cell? ⟨gb1127,1,none⟩=some (.int .i64 a1_1):=(blk_cell BK1127.out 1).trans rfl;have hcz10_2:w7.cell? ⟨gb1127,2,none⟩=some (.int .i64 a1_2):=(blk_cell BK1127.out 2).trans rfl;have hfz10_0:=blk_frozen BK1127.out 0;have hfz10_1:=blk_frozen BK1127.out 1;have hfz10_2:=blk_frozen BK1127.out 2))
    go_ret
    exact ⟨by first|rfl|(simp [errW_none,errW_some] <;> rfl)|(simp [*,errW_none,errW_some] <;> rfl),by repeat (first|(with_reducible first|exact HB.out|apply below_alloc|apply pw_below_drewN|apply below_drew1|refine below_set ?_ GE1126.out|refine below_set ?_ GE1127.out)|exact HB.out)⟩
   rw [if_neg c5] at H
   have c5b0:(a0_2==a1_2)=false:=beq_eq_false_iff_ne.mpr c5
   have c5b1:(a0_2 != a1_2)=true:=bne_iff_ne.mpr c5
   obtain rfl:=Option.some.inj H
   go_enter Try.func127,Try.ntmps127
   go_wp2_with (first|((with_reducible refine gate_dst (N:=2) rfl ?_);refine box_event ?hg (N:=2) ?hd (cs:=#[.int .i64 a0_0,.int .i64 a0_1,.int .i64 a0_2]) (t:=143) ?hr ?_;(case hd=>rfl);(case hg=>rfl);(case hr=>first|(go_simp;done)|(go_simp;rfl));intro gb1126 hg w11 hbox hb;have n0_:=Aside0.mk (below_step (by repeat (first|(with_reducible first|exact HB.out|apply below_alloc|apply pw_below_drewN|apply below_drew1)|exact HB.out)) hb);have n1_:=Aside0.mk (hbox);have n2_:=Aside0.mk ((by rw [hg];exact (below_size (by repeat (first|(with_reducible first|exact HB.out|apply below_alloc|apply pw_below_drewN|apply below_drew1)|exact HB.out))):w.heap.size≤gb1126));have n3_:=Aside0.mk ((by rw [hg];exact (below_size (by repeat (first|(with_reducible first|exact HB.out|apply below_alloc|apply pw_below_drewN|apply below_drew1)|exact HB.out))):w.heap.size≤gb1126));clear HB;have HB:=n0_;have BK1126:=n1_;have GW1126:=n2_;have GE1126:=n3_;clear n0_ n1_ n2_ n3_;clear hb hbox hg)|((with_reducible refine gate_dst (N:=3) rfl ?_);refine box_event ?hg (N:=3) ?hd (cs:=#[.int .i64 a1_0,.int .i64 a1_1,.int .i64 a1_2]) (t:=143) ?hr ?_;(case hd=>rfl);(case hg=>rfl);(case hr=>first|(go_simp;done)|(go_simp;rfl));intro gb1127 hg w12 hbox hb;have n0_:=Aside0.mk (blk_below (g:=gb1126) (o:=.cells #[.int .i64 a0_0,.int .i64 a0_1,.int .i64 a0_2] 143 (0,0)) (by (with_reducible repeat (first|refine blk_drewN ?_ _|refine blk_drew ?_|refine blk_alloc ?_ _));exact BK1126.out) hb);have n1_:=Aside0.mk (below_step (by repeat (first|(with_reducible first|exact HB.out|apply below_alloc|apply pw_below_drewN|apply below_drew1|refine below_set ?_ GE1126.out)|exact HB.out)) hb);have n2_:=Aside0.mk (hbox);have n3_:=Aside0.mk ((by rw [hg];exact (below_size (by repeat (first|(with_reducible first|exact HB.out|apply below_alloc|apply pw_below_drewN|apply below_drew1|refine below_set ?_ GE1126.out)|exact HB.out))):w.heap.size≤gb1127));have n4_:=Aside0.mk ((by rw [hg];exact (below_size (by repeat (first|(with_reducible first|exact HB.out|apply below_alloc|apply pw_below_drewN|apply below_drew1|refine below_set ?_ GE1126.out)|exact HB.out))):w.heap.size≤gb1127));have n5_:=Aside0.mk ((by rw [hg];exact Nat.ne_of_lt (blk_lt (g:=gb1126) (o:=.cells #[.int .i64 a0_0,.int .i64 a0_1,.int .i64 a0_2] 143 (0,0)) (by (with_reducible repeat (first|refine blk_drewN ?_ _|refine blk_drew ?_|refine blk_alloc ?_ _));exact BK1126.out)):gb1126 ≠ gb1127));have n6_:=Aside0.mk ((by rw [hg];exact Nat.ne_of_gt (blk_lt (g:=gb1126) (o:=.cells #[.int .i64 a0_0,.int .i64 a0_1,.int .i64 a0_2] 143 (0,0)) (by (with_reducible repeat (first|refine blk_drewN ?_ _|refine blk_drew ?_|refine blk_alloc ?_ _));exact BK1126.out)):gb1127 ≠ gb1126));clear BK1126;clear HB;have BK1126:=n0_;have HB:=n1_;have BK1127:=n2_;have GW1127:=n3_;have GE1127:=n4_;have NB1126_1127:=n5_;have NB1127_1126:=n6_;clear n0_ n1_ n2_ n3_ n4_ n5_ n6_;clear hb hbox hg;have hnb13:=NB1126_1127.out;have hnc13:=NB1127_1126.out;have hcz14_0:w12.cell? ⟨gb1126,0,none⟩=some (.int .i64 a0_0):=(blk_cell BK1126.out 0).trans rfl;have hcz14_1:w12.cell? ⟨gb1126,1,none⟩=some (.int .i64 a0_1):=(blk_cell BK1126.out 1).trans rfl;have hcz14_2:w12.cell? ⟨gb1126,2,none⟩=some (.int .i64 a0_2):=(blk_cell BK1126.out 2).trans rfl;have hfz14_0:=blk_frozen BK1126.out 0;have hfz14_1:=blk_frozen BK1126.out 1;have hfz14_2:=blk_frozen BK1126.out 2;have hcz15_0:w12.cell? ⟨gb1127,0,none⟩=some (.int .i64 a1_0):=(blk_cell BK1127.out 0).trans rfl;have hcz15_1:w12.cell? ⟨gb1127,1,none⟩=some (.int .i64 a1_1):=(blk_cell BK1127.out 1).trans rfl;have hcz15_2:w12.cell? ⟨gb1127,2,none⟩=some (.int .i64 a1_2):=(blk_cell BK1127.out 2).trans rfl;have hfz15_0:=blk_frozen BK1127.out 0;have hfz15_1:=blk_frozen BK1127.out 1;have hfz15_2:=blk_frozen BK1127.out 2))
   go_ret
   exact ⟨by first|rfl|(simp [errW_none,errW_some] <;> rfl)|(simp [*,errW_none,errW_some] <;> rfl),by repeat (first|(with_reducible first|exact HB.out|apply below_alloc|apply pw_below_drewN|apply below_drew1|refine below_set ?_ GE1126.out|refine below_set ?_ GE1127.out)|exact HB.out)⟩
  rw [if_neg c4] at H
  have c4b0:(a0_1==a1_1)=false:=beq_eq_false_iff_ne.mpr c4
  have c4b1:(a0_1 != a1_1)=true:=bne_iff_ne.mpr c4
  obtain rfl:=Option.some.inj H
  go_enter Try.func127,Try.ntmps127
  go_wp2_with (first|((with_reducible refine gate_dst (N:=2) rfl ?_);refine box_event ?hg (N:=2) ?hd (cs:=#[.int .i64 a0_0,.int .i64 a0_1,.int .i64 a0_2]) (t:=143) ?hr ?_;(case hd=>rfl);(case hg=>rfl);(case hr=>first|(go_simp;done)|(go_simp;rfl));intro gb1126 hg w16 hbox hb;have n0_:=Aside0.mk (below_step (by repeat (first|(with_reducible first|exact HB.out|apply below_alloc|apply pw_below_drewN|apply below_drew1)|exact HB.out)) hb);have n1_:=Aside0.mk (hbox);have n2_:=Aside0.mk ((by rw [hg];exact (below_size (by repeat (first|(with_reducible first|exact HB.out|apply below_alloc|apply pw_below_drewN|apply below_drew1)|exact HB.out))):w.heap.size≤gb1126));have n3_:=Aside0.mk ((by rw [hg];exact (below_size (by repeat (first|(with_reducible first|exact HB.out|apply below_alloc|apply pw_below_drewN|apply below_drew1)|exact HB.out))):w.heap.size≤gb1126));clear HB;have HB:=n0_;have BK1126:=n1_;have GW1126:=n2_;have GE1126:=n3_;clear n0_ n1_ n2_ n3_;clear hb hbox hg)|((with_reducible refine gate_dst (N:=3) rfl ?_);refine box_event ?hg (N:=3) ?hd (cs:=#[.int .i64 a1_0,.int .i64 a1_1,.int .i64 a1_2]) (t:=143) ?hr ?_;(case hd=>rfl);(case hg=>rfl);(case hr=>first|(go_simp;done)|(go_simp;rfl));intro gb1127 hg w17 hbox hb;have n0_:=Aside0.mk (blk_below (g:=gb1126) (o:=.cells #[.int .i64 a0_0,.int .i64 a0_1,.int .i64 a0_2] 143 (0,0)) (by (with_reducible repeat (first|refine blk_drewN ?_ _|refine blk_drew ?_|refine blk_alloc ?_ _));exact BK1126.out) hb);have n1_:=Aside0.mk (below_step (by repeat (first|(with_reducible first|exact HB.out|apply below_alloc|apply pw_below_drewN|apply below_drew1|refine below_set ?_ GE1126.out)|exact HB.out)) hb);have n2_:=Aside0.mk (hbox);have n3_:=Aside0.mk ((by rw [hg];exact (below_size (by repeat (first|(with_reducible first|exact HB.out|apply below_alloc|apply pw_below_drewN|apply below_drew1|refine below_set ?_ GE1126.out)|exact HB.out))):w.heap.size≤gb1127));have n4_:=Aside0.mk ((by rw [hg];exact (below_size (by repeat (first|(with_reducible first|exact HB.out|apply below_alloc|apply pw_below_drewN|apply below_drew1|refine below_set ?_ GE1126.out)|exact HB.out))):w.heap.size≤gb1127));have n5_:=Aside0.mk ((by rw [hg];exact Nat.ne_of_lt (blk_lt (g:=gb1126) (o:=.cells #[.int .i64 a0_0,.int .i64 a0_1,.int .i64 a0_2] 143 (0,0)) (by (with_reducible repeat (first|refine blk_drewN ?_ _|refine blk_drew ?_|refine blk_alloc ?_ _));exact BK1126.out)):gb1126 ≠ gb1127));have n6_:=Aside0.mk ((by rw [hg];exact Nat.ne_of_gt (blk_lt (g:=gb1126) (o:=.cells #[.int .i64 a0_0,.int .i64 a0_1,.int .i64 a0_2] 143 (0,0)) (by (with_reducible repeat (first|refine blk_drewN ?_ _|refine blk_drew ?_|refine blk_alloc ?_ _));exact BK1126.out)):gb1127 ≠ gb1126));clear BK1126;clear HB;have BK1126:=n0_;have HB:=n1_;have BK1127:=n2_;have GW1127:=n3_;have GE1127:=n4_;have NB1126_1127:=n5_;have NB1127_1126:=n6_;clear n0_ n1_ n2_ n3_ n4_ n5_ n6_;clear hb hbox hg;have hnb18:=NB1126_1127.out;have hnc18:=NB1127_1126.out;have hcz19_0:w17.cell? ⟨gb1126,0,none⟩=some (.int .i64 a0_0):=(blk_cell BK1126.out 0).trans rfl;have hcz19_1:w17.cell? ⟨gb1126,1,none⟩=some (.int .i64 a0_1):=(blk_cell BK1126.out 1).trans rfl;have hcz19_2:w17.cell? ⟨gb1126,2,none⟩=some (.int .i64 a0_2):=(blk_cell BK1126.out 2).trans rfl;have hfz19_0:=blk_frozen BK1126.out 0;have hfz19_1:=blk_frozen BK1126.out 1;have hfz19_2:=blk_frozen BK1126.out 2;have hcz20_0:w17.cell? ⟨gb1127,0,none⟩=some (.int .i64 a1_0):=(blk_cell BK1127.out 0).trans rfl;have hcz20_1:w17.cell? ⟨gb1127,1,none⟩=some (.int .i64 a1_1):=(blk_cell BK1127.out 1).trans rfl;have hcz20_2:w17.cell? ⟨gb1127,2,none⟩=some (.int .i64 a1_2):=(blk_cell BK1127.out 2).trans rfl;have hfz20_0:=blk_frozen BK1127.out 0;have hfz20_1:=blk_frozen BK1127.out 1;have hfz20_2:=blk_frozen BK1127.out 2))
  go_ret
  exact ⟨by first|rfl|(simp [errW_none,errW_some] <;> rfl)|(simp [*,errW_none,errW_some] <;> rfl),by repeat (first|(with_reducible first|exact HB.out|apply below_alloc|apply pw_below_drewN|apply below_drew1|refine below_set ?_ GE1126.out|refine below_set ?_ GE1127.out)|exact HB.out)⟩
 rw [if_neg c3] at H
 have c3b0:(a0_0==a1_0)=false:=beq_eq_false_iff_ne.mpr c3
 have c3b1:(a0_0 != a1_0)=true:=bne_iff_ne.mpr c3
 obtain rfl:=Option.some.inj H
 go_enter Try.func127,Try.ntmps127
 go_wp2_with (first|((with_reducible refine gate_dst (N:=2) rfl ?_);refine box_event ?hg (N:=2) ?hd (cs:=#[.int .i64 a0_0,.int .i64 a0_1,.int .i64 a0_2]) (t:=143) ?hr ?_;(case hd=>rfl);(case hg=>rfl);(case hr=>first|(go_simp;done)|(go_simp;rfl));intro gb1126 hg w21 hbox hb;have n0_:=Aside0.mk (below_step (by repeat (first|(with_reducible first|exact HB.out|apply below_alloc|apply pw_below_drewN|apply below_drew1)|exact HB.out)) hb);have n1_:=Aside0.mk (hbox);have n2_:=Aside0.mk ((by rw [hg];exact (below_size (by repeat (first|(with_reducible first|exact HB.out|apply below_alloc|apply pw_below_drewN|apply below_drew1)|exact HB.out))):w.heap.size≤gb1126));have n3_:=Aside0.mk ((by rw [hg];exact (below_size (by repeat (first|(with_reducible first|exact HB.out|apply below_alloc|apply pw_below_drewN|apply below_drew1)|exact HB.out))):w.heap.size≤gb1126));clear HB;have HB:=n0_;have BK1126:=n1_;have GW1126:=n2_;have GE1126:=n3_;clear n0_ n1_ n2_ n3_;clear hb hbox hg)|((with_reducible refine gate_dst (N:=3) rfl ?_);refine box_event ?hg (N:=3) ?hd (cs:=#[.int .i64 a1_0,.int .i64 a1_1,.int .i64 a1_2]) (t:=143) ?hr ?_;(case hd=>rfl);(case hg=>rfl);(case hr=>first|(go_simp;done)|(go_simp;rfl));intro gb1127 hg w22 hbox hb;have n0_:=Aside0.mk (blk_below (g:=gb1126) (o:=.cells #[.int .i64 a0_0,.int .i64 a0_1,.int .i64 a0_2] 143 (0,0)) (by (with_reducible repeat (first|refine blk_drewN ?_ _|refine blk_drew ?_|refine blk_alloc ?_ _));exact BK1126.out) hb);have n1_:=Aside0.mk (below_step (by repeat (first|(with_reducible first|exact HB.out|apply below_alloc|apply pw_below_drewN|apply below_drew1|refine below_set ?_ GE1126.out)|exact HB.out)) hb);have n2_:=Aside0.mk (hbox);have n3_:=Aside0.mk ((by rw [hg];exact (below_size (by repeat (first|(with_reducible first|exact HB.out|apply below_alloc|apply pw_below_drewN|apply below_drew1|refine below_set ?_ GE1126.out)|exact HB.out))):w.heap.size≤gb1127));have n4_:=Aside0.mk ((by rw [hg];exact (below_size (by repeat (first|(with_reducible first|exact HB.out|apply below_alloc|apply pw_below_drewN|apply below_drew1|refine below_set ?_ GE1126.out)|exact HB.out))):w.heap.size≤gb1127));have n5_:=Aside0.mk ((by rw [hg];exact Nat.ne_of_lt (blk_lt (g:=gb1126) (o:=.cells #[.int .i64 a0_0,.int .i64 a0_1,.int .i64 a0_2] 143 (0,0)) (by (with_reducible repeat (first|refine blk_drewN ?_ _|refine blk_drew ?_|refine blk_alloc ?_ _));exact BK1126.out)):gb1126 ≠ gb1127));have n6_:=Aside0.mk ((by rw [hg];exact Nat.ne_of_gt (blk_lt (g:=gb1126) (o:=.cells #[.int .i64 a0_0,.int .i64 a0_1,.int .i64 a0_2] 143 (0,0)) (by (with_reducible repeat (first|refine blk_drewN ?_ _|refine blk_drew ?_|refine blk_alloc ?_ _));exact BK1126.out)):gb1127 ≠ gb1126));clear BK1126;clear HB;have BK1126:=n0_;have HB:=n1_;have BK1127:=n2_;have GW1127:=n3_;have GE1127:=n4_;have NB1126_1127:=n5_;have NB1127_1126:=n6_;clear n0_ n1_ n2_ n3_ n4_ n5_ n6_;clear hb hbox hg;have hnb23:=NB1126_1127.out;have hnc23:=NB1127_1126.out;have hcz24_0:w22.cell? ⟨gb1126,0,none⟩=some (.int .i64 a0_0):=(blk_cell BK1126.out 0).trans rfl;have hcz24_1:w22.cell? ⟨gb1126,1,none⟩=some (.int .i64 a0_1):=(blk_cell BK1126.out 1).trans rfl;have hcz24_2:w22.cell? ⟨gb1126,2,none⟩=some (.int .i64 a0_2):=(blk_cell BK1126.out 2).trans rfl;have hfz24_0:=blk_frozen BK1126.out 0;have hfz24_1:=blk_frozen BK1126.out 1;have hfz24_2:=blk_frozen BK1126.out 2;have hcz25_0:w22.cell? ⟨gb1127,0,none⟩=some (.int .i64 a1_0):=(blk_cell BK1127.out 0).trans rfl;have hcz25_1:w22.cell? ⟨gb1127,1,none⟩=some (.int .i64 a1_1):=(blk_cell BK1127.out 1).trans rfl;have hcz25_2:w22.cell? ⟨gb1127,2,none⟩=some (.int .i64 a1_2):=(blk_cell BK1127.out 2).trans rfl;have hfz25_0:=blk_frozen BK1127.out 0;have hfz25_1:=blk_frozen BK1127.out 1;have hfz25_2:=blk_frozen BK1127.out 2))
 go_ret
 exact ⟨by first|rfl|(simp [errW_none,errW_some] <;> rfl)|(simp [*,errW_none,errW_some] <;> rfl),by repeat (first|(with_reducible first|exact HB.out|apply below_alloc|apply pw_below_drewN|apply below_drew1|refine below_set ?_ GE1126.out|refine below_set ?_ GE1127.out)|exact HB.out)⟩
end Go.Proofs.Ytpdnabhpkdchjaa.P
namespace Go.Proofs.Ytpdnabhpkdchjaa.P
open Go.RowKit Go.Proofs.YtpdnabhpkdchjaaW.PrintWords Go.Proofs.YtpdnabhpkdchjaaW.PrintLast Go.Proofs.YtpdnabhpkdchjaaW.PrintMore
attribute [local go_sem] max2_int min2_int max_two min_two max_three min_three max_four min_four
set_option linter.unusedVariables false
set_option linter.unusedSimpArgs false
def laws_eqPostS.l0:Nat→List (S143)→List (S143)→Int→Option (Bool)
 | 0,_,_,_=>none
 | k+1,x0,x1,x5=>if x5<(x0.length:Int) then (if 0≤x5 then (if x5<(x1.length:Int) then ((laws_eqPost.f ((rd_T143 x0 x5).f0) ((rd_T143 x0 x5).f1) ((rd_T143 x0 x5).f2) ((rd_T143 x1 x5).f0) ((rd_T143 x1 x5).f1) ((rd_T143 x1 x5).f2)).bind fun t1130=>(if t1130=true then (laws_eqPostS.l0 k x0 x1 (wrap64 (x5+1))) else (some false))) else (none)) else (none)) else (some true)
def laws_eqPostS.f (k:Nat) (l0:List (S143)) (l1:List (S143)):Option (Bool):=if (l0.length:Int)=(l1.length:Int) then (laws_eqPostS.l0 k l0 l1 0) else (some false)
def laws_eqPostS.T6:Bool × List (List Nat × List Nat):=(true,[([],[]),([],[]),([0,1],[0,1]),([2],[2]),([],[]),([],[]),([4,5],[4,5]),([6],[6]),([3,7],[3,7]),([8],[8])])
def laws_eqPostS.B6:List Nat:=[0,0,3,7,0,0,48,112,255,511]
theorem laws_eqPostS.tab6:rtab .any (opsOf Try.f83 6)=laws_eqPostS.T6:=by kernel_rfl
theorem laws_eqPostS.bits6:waitsOk laws_eqPostS.T6.2 laws_eqPostS.B6=true:=by kernel_rfl
set_option maxHeartbeats 8000000 in
set_option maxRecDepth 100000 in
theorem laws_eqPostS.calls (k:Nat) (A0:Option Addr) (c0:Nat) (l0:List (S143)) (A1:Option Addr) (c1:Nat) (l1:List (S143)) (r:Bool) (w:World) (hr0:Kd.C k143 w A0 l0.length l0) (hc0:l0.length≤c0) (hr1:Kd.C k143 w A1 l1.length l1) (hc1:l1.length≤c1) (h:laws_eqPostS.f k l0 l1=some r) :
  Calls Try.prog 83 #[.slice A0 l0.length c0,.slice A1 l1.length c1] w fun e w'=>e=.returned (.bool r)∧Below w.heap.size w w':=by
 have hu143:=Try.underlying143
 have HR0:=Aside0.mk hr0
 have HC0:=Aside0.mk hc0
 clear hr0 hc0
 have HR1:=Aside0.mk hr1
 have HC1:=Aside0.mk hc1
 clear hr1 hc1
 have HB:=Aside0.mk (Below.refl w.heap.size w)
 have H:(if (l0.length:Int)=(l1.length:Int) then (laws_eqPostS.l0 k l0 l1 0) else (some false))=some r:=h
 clear h
 by_cases c3:(l0.length:Int)=(l1.length:Int)
 ·rw [if_pos c3] at H
  have c3b0:((l0.length:Int)==(l1.length:Int))=true:=beq_iff_eq.mpr c3
  have c3b1:((l0.length:Int) != (l1.length:Int))=false:=bne_eq_false_iff_eq.mpr c3
  have c3b2:(l0.length==l1.length)=true:=by first|simpa using c3|(simp at c3 ⊢;omega)
  clear c3
  have H':=Aside0.mk H
  clear H
  go_enter Try.func83,Try.ntmps83
  go_wp2
  go_loopg [5] k (fun kq v5 w'=>∃ (x5_1:Int),v5=.int .i64 x5_1∧Aside0 (laws_eqPostS.l0 kq l0 l1 x5_1=some r)∧Aside0 (kq≤k)∧Aside0 (Below w.heap.size w w'))
  case atStart=>exact ⟨(0),(by first|rfl|(simp;done)|(simp [*];done)),H',⟨Nat.le_refl _⟩,⟨by repeat (first|(with_reducible first|exact HB.out|apply below_alloc|apply pw_below_drewN|apply below_drew1)|exact HB.out)⟩⟩
  case round =>
   clear H'
   try clear c1
   try clear p2
   try clear c3
   try clear c3b0
   try clear c3b1
   try clear c3b2
   obtain ⟨x5_1,rfl,HA,HK1,HB⟩:=hrel
   cases gk with
   | zero=>exact absurd HA.out (by simp [laws_eqPostS.l0])
   | succ k1 =>
    have H:=HA.out
    clear HA
    simp only [laws_eqPostS.l0] at H
    by_cases c4:x5_1<(l0.length:Int)
    ·rw [if_pos c4] at H
     have c4b0:decide (x5_1<(l0.length:Int))=true:=decide_eq_true c4
     clear c4
     by_cases c5:0≤x5_1
     ·rw [if_pos c5] at H
      have c5b0:decide (0≤x5_1)=true:=decide_eq_true c5
      clear c5
      by_cases c6:x5_1<(l1.length:Int)
      ·rw [if_pos c6] at H
       have c6b0:decide (x5_1<(l1.length:Int))=true:=decide_eq_true c6
       clear c6
       replace H:=Option.bind_eq_some_iff.mp H
       obtain ⟨t1130,A70,H⟩:=H
       replace H:(if t1130=true then (laws_eqPostS.l0 k1 l0 l1 (wrap64 (x5_1+1))) else (some false))=some r:=H
       have A7:=Aside0.mk A70
       clear A70
       by_cases c8:t1130=true
       ·subst c8
        have H1:(laws_eqPostS.l0 k1 l0 l1 (wrap64 (x5_1+1)))=some r:=by rw [if_pos rfl] at H;exact H
        clear H
        have H:=H1
        clear H1
        have H':=Aside0.mk H
        clear H
        try go_wp2
        have n0_:=Aside0.mk (below_drew1 HB.out)
        clear HB
        have HB:=n0_
        clear n0_
        have p1128:0≤(x5_1:Int):=of_decide_eq_true (by first|(with_reducible assumption)|assumption)
        have q1128:x5_1<(l0.length:Int):=of_decide_eq_true (by first|(with_reducible assumption)|assumption)
        obtain ⟨ad1128,e1128,hx1128_0,hx1128_1,hx1128_2⟩:=at_T143 HR0.out x5_1 p1128 q1128
        have hw1128_2:=hx1128_2
        have hw1128_1:=hx1128_1
        have hw1128_0:=hx1128_0
        cases e1128
        replace hx1128_0:=(HB.out.cell (World.block_lt_of_cell? w _ hx1128_0)).trans hx1128_0
        replace hx1128_1:=(HB.out.cell (World.block_lt_of_cell? w _ hx1128_1)).trans hx1128_1
        replace hx1128_2:=(HB.out.cell (World.block_lt_of_cell? w _ hx1128_2)).trans hx1128_2
        replace p1128:=eq_true p1128
        replace q1128:=eq_true q1128
        have p1129:0≤(x5_1:Int):=of_decide_eq_true (by first|(with_reducible assumption)|assumption)
        have q1129:x5_1<(l1.length:Int):=of_decide_eq_true (by first|(with_reducible assumption)|assumption)
        obtain ⟨ad1129,e1129,hx1129_0,hx1129_1,hx1129_2⟩:=at_T143 HR1.out x5_1 p1129 q1129
        have hw1129_2:=hx1129_2
        have hw1129_1:=hx1129_1
        have hw1129_0:=hx1129_0
        cases e1129
        replace hx1129_0:=(HB.out.cell (World.block_lt_of_cell? w _ hx1129_0)).trans hx1129_0
        replace hx1129_1:=(HB.out.cell (World.block_lt_of_cell? w _ hx1129_1)).trans hx1129_1
        replace hx1129_2:=(HB.out.cell (World.block_lt_of_cell? w _ hx1129_2)).trans hx1129_2
        replace p1129:=eq_true p1129
        replace q1129:=eq_true q1129
        refine start_ (n:=10) (S:=fun w'=>w'.cell? (ad1128.add ((x5_1).toNat * 3))=some (.int .i64 ((rd_T143 l0 x5_1).f0))∧w'.cell? ⟨(ad1128.add ((x5_1).toNat * 3)).block,(ad1128.add ((x5_1).toNat * 3)).off+1,none⟩=some (.int .i64 ((rd_T143 l0 x5_1).f1))∧w'.cell? ⟨(ad1128.add ((x5_1).toNat * 3)).block,(ad1128.add ((x5_1).toNat * 3)).off+2,none⟩=some (.int .i64 ((rd_T143 l0 x5_1).f2))∧w'.cell? (ad1129.add ((x5_1).toNat * 3))=some (.int .i64 ((rd_T143 l1 x5_1).f0))∧w'.cell? ⟨(ad1129.add ((x5_1).toNat * 3)).block,(ad1129.add ((x5_1).toNat * 3)).off+1,none⟩=some (.int .i64 ((rd_T143 l1 x5_1).f1))∧w'.cell? ⟨(ad1129.add ((x5_1).toNat * 3)).block,(ad1129.add ((x5_1).toNat * 3)).off+2,none⟩=some (.int .i64 ((rd_T143 l1 x5_1).f2))) (ds:=[]) #[false,false,false,false,false,false,false,false,false,false] (by kernel_rfl) rfl rfl ⟨((HB.out.cell (World.block_lt_of_cell? w _ hw1128_0)).trans hw1128_0),((HB.out.cell (World.block_lt_of_cell? w _ hw1128_1)).trans hw1128_1),((HB.out.cell (World.block_lt_of_cell? w _ hw1128_2)).trans hw1128_2),((HB.out.cell (World.block_lt_of_cell? w _ hw1129_0)).trans hw1129_0),((HB.out.cell (World.block_lt_of_cell? w _ hw1129_1)).trans hw1129_1),((HB.out.cell (World.block_lt_of_cell? w _ hw1129_2)).trans hw1129_2)⟩ (fun hHeld=>?_);refine with_tabW laws_eqPostS.tab6 laws_eqPostS.bits6 (fun HT_ HW_=>?_)
        generalize wr.drew=w9 at HB hx1128_0 hx1128_1 hx1128_2 hx1129_0 hx1129_1 hx1129_2 hHeld ⊢
        refine pure_ (i:=0) (N:=some 17) (v:=?_) (a':=?_) #[true,false,false,false,false,false,false,false,false,false] rfl rfl (any_of HT_.out (by kernel_rfl)) (fun _ _ _ h=>h) (Or.inl ⟨by rfl,?_⟩) ?_ ?_
        rotate_left
        ·intro w'
         go_simp
         with_reducible rfl
        rotate_left
        ·simp only [Act.put,List.setIfInBounds_toArray,List.set_cons_zero,List.set_cons_succ,i64_w,i32_w]
         rfl
        refine pure_ (i:=1) (N:=some 18) (v:=?_) (a':=?_) #[true,true,false,false,false,false,false,false,false,false] rfl rfl (any_of HT_.out (by kernel_rfl)) (fun _ _ _ h=>h) (Or.inl ⟨by rfl,?_⟩) ?_ ?_
        rotate_left
        ·intro w'
         go_simp
         with_reducible rfl
        rotate_left
        ·simp only [Act.put,List.setIfInBounds_toArray,List.set_cons_zero,List.set_cons_succ,i64_w,i32_w]
         rfl
        refine pure_ (i:=2) (N:=some 19) (v:=?_) (a':=?_) #[true,true,true,false,false,false,false,false,false,false] rfl rfl (any_of HT_.out (by kernel_rfl)) (fun _ _ _ h=>h) (Or.inl ⟨by rfl,?_⟩) ?_ ?_
        rotate_left
        ·intro w'
         go_simp
         with_reducible rfl
        rotate_left
        ·simp only [Act.put,List.setIfInBounds_toArray,List.set_cons_zero,List.set_cons_succ,i64_w,i32_w]
         rfl
        refine pure_ (i:=4) (N:=some 21) (v:=?_) (a':=?_) #[true,true,true,false,true,false,false,false,false,false] rfl rfl (any_of HT_.out (by kernel_rfl)) (fun _ _ _ h=>h) (Or.inl ⟨by rfl,?_⟩) ?_ ?_
        rotate_left
        ·intro w'
         go_simp
         with_reducible rfl
        rotate_left
        ·simp only [Act.put,List.setIfInBounds_toArray,List.set_cons_zero,List.set_cons_succ,i64_w,i32_w]
         rfl
        refine pure_ (i:=5) (N:=some 22) (v:=?_) (a':=?_) #[true,true,true,false,true,true,false,false,false,false] rfl rfl (any_of HT_.out (by kernel_rfl)) (fun _ _ _ h=>h) (Or.inl ⟨by rfl,?_⟩) ?_ ?_
        rotate_left
        ·intro w'
         go_simp
         with_reducible rfl
        rotate_left
        ·simp only [Act.put,List.setIfInBounds_toArray,List.set_cons_zero,List.set_cons_succ,i64_w,i32_w]
         rfl
        refine pure_ (i:=6) (N:=some 23) (v:=?_) (a':=?_) #[true,true,true,false,true,true,true,false,false,false] rfl rfl (any_of HT_.out (by kernel_rfl)) (fun _ _ _ h=>h) (Or.inl ⟨by rfl,?_⟩) ?_ ?_
        rotate_left
        ·intro w'
         go_simp
         with_reducible rfl
        rotate_left
        ·simp only [Act.put,List.setIfInBounds_toArray,List.set_cons_zero,List.set_cons_succ,i64_w,i32_w]
         rfl
        refine take_ (i:=3) (N:=some 20) (v:=?_) (a':=?_) #[true,true,true,true,true,true,true,false,false,false] rfl rfl (take_ofW HT_.out HW_.out (by kernel_rfl)) (fun _ _ _ h=>h) (Or.inl ⟨by rfl,?_⟩) hHeld ?_ ?_
        rotate_left
        ·rintro w' ⟨s0,s1,s2,s3,s4,s5⟩
         go_simp
         with_reducible rfl
        rotate_left
        ·simp only [Act.put,List.setIfInBounds_toArray,List.set_cons_zero,List.set_cons_succ,i64_w,i32_w]
         rfl
        refine take_ (i:=7) (N:=some 24) (v:=?_) (a':=?_) #[true,true,true,true,true,true,true,true,false,false] rfl rfl (take_ofW HT_.out HW_.out (by kernel_rfl)) (fun _ _ _ h=>h) (Or.inl ⟨by rfl,?_⟩) hHeld ?_ ?_
        rotate_left
        ·rintro w' ⟨s0,s1,s2,s3,s4,s5⟩
         go_simp
         with_reducible rfl
        rotate_left
        ·simp only [Act.put,List.setIfInBounds_toArray,List.set_cons_zero,List.set_cons_succ,i64_w,i32_w]
         rfl
        refine one_ (i:=8) (N:=some 25) #[true,true,true,true,true,true,true,true,true,false] rfl rfl (one_of HT_.out (by kernel_rfl)) (by decide) (fun K hK=>?_)
        refine goes_ Try.func127 (by kernel_rfl) rfl #[.agg #[.int .i64 ((rd_T143 l0 x5_1).f0),.int .i64 ((rd_T143 l0 x5_1).f1),.int .i64 ((rd_T143 l0 x5_1).f2)],.agg #[.int .i64 ((rd_T143 l1 x5_1).f0),.int .i64 ((rd_T143 l1 x5_1).f1),.int .i64 ((rd_T143 l1 x5_1).f2)]] (by rfl) rfl rfl (by (try simp only [List.map_toArray,List.map_cons,List.map_nil]);first|done|rfl|(simp only [List.length_drop,List.length_take];rfl)) ?_
        with_reducible refine (laws_eqPost.calls ((rd_T143 l0 x5_1).f0) ((rd_T143 l0 x5_1).f1) ((rd_T143 l0 x5_1).f2) ((rd_T143 l1 x5_1).f0) ((rd_T143 l1 x5_1).f1) ((rd_T143 l1 x5_1).f2) true _ A7.out).mono ?_
        rintro e w10 ⟨rfl,hb⟩
        refine ⟨_,rfl,?_⟩
        have n0_:=Aside0.mk (below_step (by repeat (first|(with_reducible first|exact HB.out|apply below_alloc|apply pw_below_drewN|apply below_drew1)|exact HB.out)) hb)
        clear HB
        have HB:=n0_
        clear n0_
        (try clear hb)
        (try clear hb2)
        (try clear hk)
        (try clear hi)
        refine hK.out _ _ ⟨((HB.out.cell (World.block_lt_of_cell? w _ hw1128_0)).trans hw1128_0),((HB.out.cell (World.block_lt_of_cell? w _ hw1128_1)).trans hw1128_1),((HB.out.cell (World.block_lt_of_cell? w _ hw1128_2)).trans hw1128_2),((HB.out.cell (World.block_lt_of_cell? w _ hw1129_0)).trans hw1129_0),((HB.out.cell (World.block_lt_of_cell? w _ hw1129_1)).trans hw1129_1),((HB.out.cell (World.block_lt_of_cell? w _ hw1129_2)).trans hw1129_2)⟩ (fun hHeld=>?_)
        clear hK K
        refine norm_ (a':=?_) ?_ ?_
        rotate_left
        ·show Act.put _ (some 25) _=_
         simp only [Act.put,List.setIfInBounds_toArray,List.set_cons_zero,List.set_cons_succ,i64_w,i32_w]
         rfl
        refine pure_ (i:=9) (N:=some 26) (v:=?_) (a':=?_) #[true,true,true,true,true,true,true,true,true,true] rfl rfl (any_of HT_.out (by kernel_rfl)) (fun _ _ _ h=>h) (Or.inl ⟨by rfl,?_⟩) ?_ ?_
        rotate_left
        ·intro w'
         go_simp
         with_reducible rfl
        rotate_left
        ·simp only [Act.put,List.setIfInBounds_toArray,List.set_cons_zero,List.set_cons_succ,i64_w,i32_w]
         rfl
        refine done_ (done_of HT_.out (by kernel_rfl)) ?_
        try go_wp2
        go_roundg k1
        case measure=>have:=HK1.out;omega
        case rel=>exact ⟨(wrap64 (x5_1+1)),(by first|rfl|(simp;done)|(simp [*];done)),H',⟨by have:=HK1.out;omega⟩,⟨by repeat (first|(with_reducible first|exact HB.out|apply below_alloc|apply pw_below_drewN|apply below_drew1)|exact HB.out)⟩⟩
       replace c8:=Bool.eq_false_iff.mpr c8
       subst c8
       have H1:(some false)=some r:=by rw [if_neg (show ¬ (false=true) by decide)] at H;exact H
       clear H
       have H:=H1
       clear H1
       obtain rfl:=Option.some.inj H
       try go_wp2
       have n0_:=Aside0.mk (below_drew1 HB.out)
       clear HB
       have HB:=n0_
       clear n0_
       have p1128:0≤(x5_1:Int):=of_decide_eq_true (by first|(with_reducible assumption)|assumption)
       have q1128:x5_1<(l0.length:Int):=of_decide_eq_true (by first|(with_reducible assumption)|assumption)
       obtain ⟨ad1128,e1128,hx1128_0,hx1128_1,hx1128_2⟩:=at_T143 HR0.out x5_1 p1128 q1128
       have hw1128_2:=hx1128_2
       have hw1128_1:=hx1128_1
       have hw1128_0:=hx1128_0
       cases e1128
       replace hx1128_0:=(HB.out.cell (World.block_lt_of_cell? w _ hx1128_0)).trans hx1128_0
       replace hx1128_1:=(HB.out.cell (World.block_lt_of_cell? w _ hx1128_1)).trans hx1128_1
       replace hx1128_2:=(HB.out.cell (World.block_lt_of_cell? w _ hx1128_2)).trans hx1128_2
       replace p1128:=eq_true p1128
       replace q1128:=eq_true q1128
       have p1129:0≤(x5_1:Int):=of_decide_eq_true (by first|(with_reducible assumption)|assumption)
       have q1129:x5_1<(l1.length:Int):=of_decide_eq_true (by first|(with_reducible assumption)|assumption)
       obtain ⟨ad1129,e1129,hx1129_0,hx1129_1,hx1129_2⟩:=at_T143 HR1.out x5_1 p1129 q1129
       have hw1129_2:=hx1129_2
       have hw1129_1:=hx1129_1
       have hw1129_0:=hx1129_0
       cases e1129
       replace hx1129_0:=(HB.out.cell (World.block_lt_of_cell? w _ hx1129_0)).trans hx1129_0
       replace hx1129_1:=(HB.out.cell (World.block_lt_of_cell? w _ hx1129_1)).trans hx1129_1
       replace hx1129_2:=(HB.out.cell (World.block_lt_of_cell? w _ hx1129_2)).trans hx1129_2
       replace p1129:=eq_true p1129
       replace q1129:=eq_true q1129
       refine start_ (n:=10) (S:=fun w'=>w'.cell? (ad1128.add ((x5_1).toNat * 3))=some (.int .i64 ((rd_T143 l0 x5_1).f0))∧w'.cell? ⟨(ad1128.add ((x5_1).toNat * 3)).block,(ad1128.add ((x5_1).toNat * 3)).off+1,none⟩=some (.int .i64 ((rd_T143 l0 x5_1).f1))∧w'.cell? ⟨(ad1128.add ((x5_1).toNat * 3)).block,(ad1128.add ((x5_1).toNat * 3)).off+2,none⟩=some (.int .i64 ((rd_T143 l0 x5_1).f2))∧w'.cell? (ad1129.add ((x5_1).toNat * 3))=some (.int .i64 ((rd_T143 l1 x5_1).f0))∧w'.cell? ⟨(ad1129.add ((x5_1).toNat * 3)).block,(ad1129.add ((x5_1).toNat * 3)).off+1,none⟩=some (.int .i64 ((rd_T143 l1 x5_1).f1))∧w'.cell? ⟨(ad1129.add ((x5_1).toNat * 3)).block,(ad1129.add ((x5_1).toNat * 3)).off+2,none⟩=some (.int .i64 ((rd_T143 l1 x5_1).f2))) (ds:=[]) #[false,false,false,false,false,false,false,false,false,false] (by kernel_rfl) rfl rfl ⟨((HB.out.cell (World.block_lt_of_cell? w _ hw1128_0)).trans hw1128_0),((HB.out.cell (World.block_lt_of_cell? w _ hw1128_1)).trans hw1128_1),((HB.out.cell (World.block_lt_of_cell? w _ hw1128_2)).trans hw1128_2),((HB.out.cell (World.block_lt_of_cell? w _ hw1129_0)).trans hw1129_0),((HB.out.cell (World.block_lt_of_cell? w _ hw1129_1)).trans hw1129_1),((HB.out.cell (World.block_lt_of_cell? w _ hw1129_2)).trans hw1129_2)⟩ (fun hHeld=>?_);refine with_tabW laws_eqPostS.tab6 laws_eqPostS.bits6 (fun HT_ HW_=>?_)
       generalize wr.drew=w11 at HB hx1128_0 hx1128_1 hx1128_2 hx1129_0 hx1129_1 hx1129_2 hHeld ⊢
       refine pure_ (i:=0) (N:=some 17) (v:=?_) (a':=?_) #[true,false,false,false,false,false,false,false,false,false] rfl rfl (any_of HT_.out (by kernel_rfl)) (fun _ _ _ h=>h) (Or.inl ⟨by rfl,?_⟩) ?_ ?_
       rotate_left
       ·intro w'
        go_simp
        with_reducible rfl
       rotate_left
       ·simp only [Act.put,List.setIfInBounds_toArray,List.set_cons_zero,List.set_cons_succ,i64_w,i32_w]
        rfl
       refine pure_ (i:=1) (N:=some 18) (v:=?_) (a':=?_) #[true,true,false,false,false,false,false,false,false,false] rfl rfl (any_of HT_.out (by kernel_rfl)) (fun _ _ _ h=>h) (Or.inl ⟨by rfl,?_⟩) ?_ ?_
       rotate_left
       ·intro w'
        go_simp
        with_reducible rfl
       rotate_left
       ·simp only [Act.put,List.setIfInBounds_toArray,List.set_cons_zero,List.set_cons_succ,i64_w,i32_w]
        rfl
       refine pure_ (i:=2) (N:=some 19) (v:=?_) (a':=?_) #[true,true,true,false,false,false,false,false,false,false] rfl rfl (any_of HT_.out (by kernel_rfl)) (fun _ _ _ h=>h) (Or.inl ⟨by rfl,?_⟩) ?_ ?_
       rotate_left
       ·intro w'
        go_simp
        with_reducible rfl
       rotate_left
       ·simp only [Act.put,List.setIfInBounds_toArray,List.set_cons_zero,List.set_cons_succ,i64_w,i32_w]
        rfl
       refine pure_ (i:=4) (N:=some 21) (v:=?_) (a':=?_) #[true,true,true,false,true,false,false,false,false,false] rfl rfl (any_of HT_.out (by kernel_rfl)) (fun _ _ _ h=>h) (Or.inl ⟨by rfl,?_⟩) ?_ ?_
       rotate_left
       ·intro w'
        go_simp
        with_reducible rfl
       rotate_left
       ·simp only [Act.put,List.setIfInBounds_toArray,List.set_cons_zero,List.set_cons_succ,i64_w,i32_w]
        rfl
       refine pure_ (i:=5) (N:=some 22) (v:=?_) (a':=?_) #[true,true,true,false,true,true,false,false,false,false] rfl rfl (any_of HT_.out (by kernel_rfl)) (fun _ _ _ h=>h) (Or.inl ⟨by rfl,?_⟩) ?_ ?_
       rotate_left
       ·intro w'
        go_simp
        with_reducible rfl
       rotate_left
       ·simp only [Act.put,List.setIfInBounds_toArray,List.set_cons_zero,List.set_cons_succ,i64_w,i32_w]
        rfl
       refine pure_ (i:=6) (N:=some 23) (v:=?_) (a':=?_) #[true,true,true,false,true,true,true,false,false,false] rfl rfl (any_of HT_.out (by kernel_rfl)) (fun _ _ _ h=>h) (Or.inl ⟨by rfl,?_⟩) ?_ ?_
       rotate_left
       ·intro w'
        go_simp
        with_reducible rfl
       rotate_left
       ·simp only [Act.put,List.setIfInBounds_toArray,List.set_cons_zero,List.set_cons_succ,i64_w,i32_w]
        rfl
       refine take_ (i:=3) (N:=some 20) (v:=?_) (a':=?_) #[true,true,true,true,true,true,true,false,false,false] rfl rfl (take_ofW HT_.out HW_.out (by kernel_rfl)) (fun _ _ _ h=>h) (Or.inl ⟨by rfl,?_⟩) hHeld ?_ ?_
       rotate_left
       ·rintro w' ⟨s0,s1,s2,s3,s4,s5⟩
        go_simp
        with_reducible rfl
       rotate_left
       ·simp only [Act.put,List.setIfInBounds_toArray,List.set_cons_zero,List.set_cons_succ,i64_w,i32_w]
        rfl
       refine take_ (i:=7) (N:=some 24) (v:=?_) (a':=?_) #[true,true,true,true,true,true,true,true,false,false] rfl rfl (take_ofW HT_.out HW_.out (by kernel_rfl)) (fun _ _ _ h=>h) (Or.inl ⟨by rfl,?_⟩) hHeld ?_ ?_
       rotate_left
       ·rintro w' ⟨s0,s1,s2,s3,s4,s5⟩
        go_simp
        with_reducible rfl
       rotate_left
       ·simp only [Act.put,List.setIfInBounds_toArray,List.set_cons_zero,List.set_cons_succ,i64_w,i32_w]
        rfl
       refine one_ (i:=8) (N:=some 25) #[true,true,true,true,true,true,true,true,true,false] rfl rfl (one_of HT_.out (by kernel_rfl)) (by decide) (fun K hK=>?_)
       refine goes_ Try.func127 (by kernel_rfl) rfl #[.agg #[.int .i64 ((rd_T143 l0 x5_1).f0),.int .i64 ((rd_T143 l0 x5_1).f1),.int .i64 ((rd_T143 l0 x5_1).f2)],.agg #[.int .i64 ((rd_T143 l1 x5_1).f0),.int .i64 ((rd_T143 l1 x5_1).f1),.int .i64 ((rd_T143 l1 x5_1).f2)]] (by rfl) rfl rfl (by (try simp only [List.map_toArray,List.map_cons,List.map_nil]);first|done|rfl|(simp only [List.length_drop,List.length_take];rfl)) ?_
       with_reducible refine (laws_eqPost.calls ((rd_T143 l0 x5_1).f0) ((rd_T143 l0 x5_1).f1) ((rd_T143 l0 x5_1).f2) ((rd_T143 l1 x5_1).f0) ((rd_T143 l1 x5_1).f1) ((rd_T143 l1 x5_1).f2) false _ A7.out).mono ?_
       rintro e w12 ⟨rfl,hb⟩
       refine ⟨_,rfl,?_⟩
       have n0_:=Aside0.mk (below_step (by repeat (first|(with_reducible first|exact HB.out|apply below_alloc|apply pw_below_drewN|apply below_drew1)|exact HB.out)) hb)
       clear HB
       have HB:=n0_
       clear n0_
       (try clear hb)
       (try clear hb2)
       (try clear hk)
       (try clear hi)
       refine hK.out _ _ ⟨((HB.out.cell (World.block_lt_of_cell? w _ hw1128_0)).trans hw1128_0),((HB.out.cell (World.block_lt_of_cell? w _ hw1128_1)).trans hw1128_1),((HB.out.cell (World.block_lt_of_cell? w _ hw1128_2)).trans hw1128_2),((HB.out.cell (World.block_lt_of_cell? w _ hw1129_0)).trans hw1129_0),((HB.out.cell (World.block_lt_of_cell? w _ hw1129_1)).trans hw1129_1),((HB.out.cell (World.block_lt_of_cell? w _ hw1129_2)).trans hw1129_2)⟩ (fun hHeld=>?_)
       clear hK K
       refine norm_ (a':=?_) ?_ ?_
       rotate_left
       ·show Act.put _ (some 25) _=_
        simp only [Act.put,List.setIfInBounds_toArray,List.set_cons_zero,List.set_cons_succ,i64_w,i32_w]
        rfl
       refine pure_ (i:=9) (N:=some 26) (v:=?_) (a':=?_) #[true,true,true,true,true,true,true,true,true,true] rfl rfl (any_of HT_.out (by kernel_rfl)) (fun _ _ _ h=>h) (Or.inl ⟨by rfl,?_⟩) ?_ ?_
       rotate_left
       ·intro w'
        go_simp
        with_reducible rfl
       rotate_left
       ·simp only [Act.put,List.setIfInBounds_toArray,List.set_cons_zero,List.set_cons_succ,i64_w,i32_w]
        rfl
       refine done_ (done_of HT_.out (by kernel_rfl)) ?_
       try go_wp2
       go_ret
       exact ⟨by first|rfl|(simp [errW_none,errW_some] <;> rfl)|(simp [*,errW_none,errW_some] <;> rfl),by repeat (first|(with_reducible first|exact HB.out|apply below_alloc|apply pw_below_drewN|apply below_drew1)|exact HB.out)⟩
      rw [if_neg c6] at H
      exact absurd H (by simp)
     rw [if_neg c5] at H
     exact absurd H (by simp)
    rw [if_neg c4] at H
    have c4b0:decide (x5_1<(l0.length:Int))=false:=decide_eq_false c4
    clear c4
    obtain rfl:=Option.some.inj H
    go_wp2
    go_ret
    exact ⟨by first|rfl|(simp [errW_none,errW_some] <;> rfl)|(simp [*,errW_none,errW_some] <;> rfl),by repeat (first|(with_reducible first|exact HB.out|apply below_alloc|apply pw_below_drewN|apply below_drew1)|exact HB.out)⟩
 rw [if_neg c3] at H
 have c3b0:((l0.length:Int)==(l1.length:Int))=false:=beq_eq_false_iff_ne.mpr c3
 have c3b1:((l0.length:Int) != (l1.length:Int))=true:=bne_iff_ne.mpr c3
 have c3b2:(l0.length==l1.length)=false:=by first|simpa using c3|(simp at c3 ⊢;omega)
 obtain rfl:=Option.some.inj H
 go_enter Try.func83,Try.ntmps83
 go_wp2
 go_ret
 exact ⟨by first|rfl|(simp [errW_none,errW_some] <;> rfl)|(simp [*,errW_none,errW_some] <;> rfl),by repeat (first|(with_reducible first|exact HB.out|apply below_alloc|apply pw_below_drewN|apply below_drew1)|exact HB.out)⟩
end Go.Proofs.Ytpdnabhpkdchjaa.P
