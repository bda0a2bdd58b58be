/- The statement FnSweep holds of the given program, for every argument; there are no conditions. (Part 5 of 6.) -/
import Derived.Test.YtpdnabhpkdchjaaBFnSweep4
namespace Go.Proofs.Ytpdnabhpkdchjaa.P
open Go.RowKit Go.Proofs.YtpdnabhpkdchjaaW.PrintWords Go.Proofs.YtpdnabhpkdchjaaW.PrintLast Go.Proofs.YtpdnabhpkdchjaaW.PrintMore
attribute [local go_sem] max2_int min2_int max_two min_two max_three min_three max_four min_four
set_option linter.unusedVariables false
set_option linter.unusedSimpArgs false
def laws_wDone.l0:Nat→List (S48)→List (S48)→Int→Int→Option (Bool)
 | 0,_,_,_,_=>none
 | k+1,x0,x1,x12,x13=>if x13<x12 then (if 0≤x13 then (if x13<(x0.length:Int) then (if x13<(x1.length:Int) then (if ((rd_T48 x0 x13).f0)=((rd_T48 x1 x13).f0) then ((laws_wState.f k ((rd_T48 x0 x13).f1.f0) ((rd_T48 x0 x13).f1.f1) ((rd_T48 x0 x13).f1.f2) ((rd_T48 x1 x13).f1.f0) ((rd_T48 x1 x13).f1.f1) ((rd_T48 x1 x13).f1.f2)).bind fun t319=>(if t319=true then (laws_wDone.l0 k x0 x1 x12 (wrap64 (x13+1))) else (some false))) else (some false)) else (none)) else (none)) else (none)) else (some true)
def laws_wDone.f (k:Nat) (l0:List (S48)) (l1:List (S48)):Option (Bool):=if (l0.length:Int)=(l1.length:Int) then (laws_wDone.l0 k l0 l1 (l0.length:Int) 0) else (some false)
def laws_wDone.T6:Bool × List (List Nat × List Nat):=(true,[([],[]),([],[]),([0,1],[0,1]),([2],[2]),([3],[3]),([],[]),([],[]),([5,6],[5,6]),([7],[7]),([8],[8]),([4,9],[4,9]),([10],[10]),([11],[11]),([11],[11]),([12,13,11],[11,12,13]),([14,11],[11,14]),([15,11],[11,15]),([11],[11]),([11],[11]),([17,18,11],[11,17,18]),([19,11],[11,19]),([20,11],[11,20]),([16,21,11,11],[11,16,21]),([22,11],[11,22]),([11,23],[11,23])])
def laws_wDone.B6:List Nat:=[0,0,3,7,15,0,0,96,224,480,1023,2047,4095,4095,16383,32767,65535,4095,4095,397311,921599,1970175,4194303,8388607,16777215]
theorem laws_wDone.tab6:rtab .any (opsOf Try.f30 6)=laws_wDone.T6:=by kernel_rfl
theorem laws_wDone.bits6:waitsOk laws_wDone.T6.2 laws_wDone.B6=true:=by kernel_rfl
set_option maxHeartbeats 8000000 in
set_option maxRecDepth 100000 in
theorem laws_wDone.calls (k:Nat) (A0:Option Addr) (c0:Nat) (l0:List (S48)) (A1:Option Addr) (c1:Nat) (l1:List (S48)) (r:Bool) (w:World) (hr0:Kd.C k48 w A0 l0.length l0) (hc0:l0.length≤c0) (hr1:Kd.C k48 w A1 l1.length l1) (hc1:l1.length≤c1) (h:laws_wDone.f k l0 l1=some r) :
  Calls Try.prog 30 #[.slice A0 l0.length c0,.slice A1 l1.length c1] w fun e w'=>e=.returned (.bool r)∧Below w.heap.size w w':=by
 have hu46:=Try.underlying46
 have HR0:=Aside0.mk hr0
 have HC0:=Aside0.mk hc0
 clear hr0 hc0
 have HR1:=Aside0.mk hr1
 have HC1:=Aside0.mk hc1
 clear hr1 hc1
 have HB:=Aside0.mk (Below.refl w.heap.size w)
 have H:(if (l0.length:Int)=(l1.length:Int) then (laws_wDone.l0 k l0 l1 (l0.length:Int) 0) else (some false))=some r:=h
 clear h
 by_cases c3:(l0.length:Int)=(l1.length:Int)
 ·rw [if_pos c3] at H
  have c3b0:((l0.length:Int)==(l1.length:Int))=true:=beq_iff_eq.mpr c3
  have c3b1:((l0.length:Int) != (l1.length:Int))=false:=bne_eq_false_iff_eq.mpr c3
  have c3b2:(l0.length==l1.length)=true:=by first|simpa using c3|(simp at c3 ⊢;omega)
  clear c3
  have H':=Aside0.mk H
  clear H
  go_enter Try.func30,Try.ntmps30
  go_wp2
  go_loopg [13] k (fun kq v13 w'=>∃ (x13_1:Int),v13=.int .i64 x13_1∧Aside0 (laws_wDone.l0 kq l0 l1 (l0.length:Int) x13_1=some r)∧Aside0 (kq≤k)∧Aside0 (Below w.heap.size w w'))
  case atStart=>exact ⟨(0),(by first|rfl|(simp;done)|(simp [*];done)),H',⟨Nat.le_refl _⟩,⟨by repeat (first|(with_reducible first|exact HB.out|apply below_alloc|apply pw_below_drewN|apply below_drew1)|exact HB.out)⟩⟩
  case round =>
   clear H'
   try clear c1
   try clear p2
   try clear c3
   try clear c3b0
   try clear c3b1
   try clear c3b2
   obtain ⟨x13_1,rfl,HA,HK1,HB⟩:=hrel
   cases gk with
   | zero=>exact absurd HA.out (by simp [laws_wDone.l0])
   | succ k1 =>
    have H:=HA.out
    clear HA
    simp only [laws_wDone.l0] at H
    by_cases c4:x13_1<(l0.length:Int)
    ·rw [if_pos c4] at H
     have c4b0:decide (x13_1<(l0.length:Int))=true:=decide_eq_true c4
     clear c4
     by_cases c5:0≤x13_1
     ·rw [if_pos c5] at H
      have c5b0:decide (0≤x13_1)=true:=decide_eq_true c5
      clear c5
      by_cases c6:x13_1<(l0.length:Int)
      ·rw [if_pos c6] at H
       have c6b0:decide (x13_1<(l0.length:Int))=true:=decide_eq_true c6
       clear c6
       by_cases c7:x13_1<(l1.length:Int)
       ·rw [if_pos c7] at H
        have c7b0:decide (x13_1<(l1.length:Int))=true:=decide_eq_true c7
        clear c7
        by_cases c8:((rd_T48 l0 x13_1).f0)=((rd_T48 l1 x13_1).f0)
        ·rw [if_pos c8] at H
         have c8b0:(((rd_T48 l0 x13_1).f0)==((rd_T48 l1 x13_1).f0))=true:=beq_iff_eq.mpr c8
         have c8b1:(((rd_T48 l0 x13_1).f0) != ((rd_T48 l1 x13_1).f0))=false:=bne_eq_false_iff_eq.mpr c8
         clear c8
         replace H:=Option.bind_eq_some_iff.mp H
         obtain ⟨t319,A90,H⟩:=H
         replace H:(if t319=true then (laws_wDone.l0 k1 l0 l1 (l0.length:Int) (wrap64 (x13_1+1))) else (some false))=some r:=H
         have A9:=Aside0.mk A90
         clear A90
         by_cases c10:t319=true
         ·subst c10
          have H1:(laws_wDone.l0 k1 l0 l1 (l0.length:Int) (wrap64 (x13_1+1)))=some r:=by rw [if_pos rfl] at H;exact H
          clear H
          have H:=H1
          clear H1
          have H':=Aside0.mk H
          clear H
          try go_wp2
          have n0_:=Aside0.mk (below_drew1 HB.out)
          clear HB
          have HB:=n0_
          clear n0_
          have p315:0≤(x13_1:Int):=of_decide_eq_true (by first|(with_reducible assumption)|assumption)
          have q315:x13_1<(l0.length:Int):=of_decide_eq_true (by first|(with_reducible assumption)|assumption)
          obtain ⟨ad315,A315_2,c315_2,A315_3,c315_3,e315,hx315_0,hx315_1,hx315_2,hx315_3,hl315_2,hi315_2,hl315_3,hi315_3⟩:=at_T48 HR0.out x13_1 p315 q315
          have hw315_3:=hx315_3
          have hw315_2:=hx315_2
          have hw315_1:=hx315_1
          have hw315_0:=hx315_0
          cases e315
          replace hx315_0:=(HB.out.cell (World.block_lt_of_cell? w _ hx315_0)).trans hx315_0
          replace hx315_1:=(HB.out.cell (World.block_lt_of_cell? w _ hx315_1)).trans hx315_1
          replace hx315_2:=(HB.out.cell (World.block_lt_of_cell? w _ hx315_2)).trans hx315_2
          replace hx315_3:=(HB.out.cell (World.block_lt_of_cell? w _ hx315_3)).trans hx315_3
          have HR315_2:=Aside0.mk hi315_2
          have HC315_2:=Aside0.mk hl315_2
          clear hi315_2 hl315_2
          have HR315_3:=Aside0.mk hi315_3
          have HC315_3:=Aside0.mk hl315_3
          clear hi315_3 hl315_3
          replace p315:=eq_true p315
          replace q315:=eq_true q315
          have p316:0≤(x13_1:Int):=of_decide_eq_true (by first|(with_reducible assumption)|assumption)
          have q316:x13_1<(l1.length:Int):=of_decide_eq_true (by first|(with_reducible assumption)|assumption)
          obtain ⟨ad316,A316_2,c316_2,A316_3,c316_3,e316,hx316_0,hx316_1,hx316_2,hx316_3,hl316_2,hi316_2,hl316_3,hi316_3⟩:=at_T48 HR1.out x13_1 p316 q316
          have hw316_3:=hx316_3
          have hw316_2:=hx316_2
          have hw316_1:=hx316_1
          have hw316_0:=hx316_0
          cases e316
          replace hx316_0:=(HB.out.cell (World.block_lt_of_cell? w _ hx316_0)).trans hx316_0
          replace hx316_1:=(HB.out.cell (World.block_lt_of_cell? w _ hx316_1)).trans hx316_1
          replace hx316_2:=(HB.out.cell (World.block_lt_of_cell? w _ hx316_2)).trans hx316_2
          replace hx316_3:=(HB.out.cell (World.block_lt_of_cell? w _ hx316_3)).trans hx316_3
          have HR316_2:=Aside0.mk hi316_2
          have HC316_2:=Aside0.mk hl316_2
          clear hi316_2 hl316_2
          have HR316_3:=Aside0.mk hi316_3
          have HC316_3:=Aside0.mk hl316_3
          clear hi316_3 hl316_3
          replace p316:=eq_true p316
          replace q316:=eq_true q316
          have p317:0≤(x13_1:Int):=of_decide_eq_true (by first|(with_reducible assumption)|assumption)
          have q317:x13_1<(l0.length:Int):=of_decide_eq_true (by first|(with_reducible assumption)|assumption)
          obtain ⟨ad317,A317_2,c317_2,A317_3,c317_3,e317,hx317_0,hx317_1,hx317_2,hx317_3,hl317_2,hi317_2,hl317_3,hi317_3⟩:=at_T48 HR0.out x13_1 p317 q317
          have hw317_3:=hx317_3
          have hw317_2:=hx317_2
          have hw317_1:=hx317_1
          have hw317_0:=hx317_0
          obtain rfl:ad315=ad317:=(by injection e317)
          replace hx317_0:=(HB.out.cell (World.block_lt_of_cell? w _ hx317_0)).trans hx317_0
          replace hx317_1:=(HB.out.cell (World.block_lt_of_cell? w _ hx317_1)).trans hx317_1
          replace hx317_2:=(HB.out.cell (World.block_lt_of_cell? w _ hx317_2)).trans hx317_2
          replace hx317_3:=(HB.out.cell (World.block_lt_of_cell? w _ hx317_3)).trans hx317_3
          have HR317_2:=Aside0.mk hi317_2
          have HC317_2:=Aside0.mk hl317_2
          clear hi317_2 hl317_2
          have HR317_3:=Aside0.mk hi317_3
          have HC317_3:=Aside0.mk hl317_3
          clear hi317_3 hl317_3
          replace p317:=eq_true p317
          replace q317:=eq_true q317
          have ea_:=Option.some.inj (hx315_2.symm.trans hx317_2)
          injection ea_ with ea_ en_ ec_
          subst ea_
          subst ec_
          clear en_
          have ea_:=Option.some.inj (hx315_3.symm.trans hx317_3)
          injection ea_ with ea_ en_ ec_
          subst ea_
          subst ec_
          clear en_
          have p318:0≤(x13_1:Int):=of_decide_eq_true (by first|(with_reducible assumption)|assumption)
          have q318:x13_1<(l1.length:Int):=of_decide_eq_true (by first|(with_reducible assumption)|assumption)
          obtain ⟨ad318,A318_2,c318_2,A318_3,c318_3,e318,hx318_0,hx318_1,hx318_2,hx318_3,hl318_2,hi318_2,hl318_3,hi318_3⟩:=at_T48 HR1.out x13_1 p318 q318
          have hw318_3:=hx318_3
          have hw318_2:=hx318_2
          have hw318_1:=hx318_1
          have hw318_0:=hx318_0
          obtain rfl:ad316=ad318:=(by injection e318)
          replace hx318_0:=(HB.out.cell (World.block_lt_of_cell? w _ hx318_0)).trans hx318_0
          replace hx318_1:=(HB.out.cell (World.block_lt_of_cell? w _ hx318_1)).trans hx318_1
          replace hx318_2:=(HB.out.cell (World.block_lt_of_cell? w _ hx318_2)).trans hx318_2
          replace hx318_3:=(HB.out.cell (World.block_lt_of_cell? w _ hx318_3)).trans hx318_3
          have HR318_2:=Aside0.mk hi318_2
          have HC318_2:=Aside0.mk hl318_2
          clear hi318_2 hl318_2
          have HR318_3:=Aside0.mk hi318_3
          have HC318_3:=Aside0.mk hl318_3
          clear hi318_3 hl318_3
          replace p318:=eq_true p318
          replace q318:=eq_true q318
          have ea_:=Option.some.inj (hx316_2.symm.trans hx318_2)
          injection ea_ with ea_ en_ ec_
          subst ea_
          subst ec_
          clear en_
          have ea_:=Option.some.inj (hx316_3.symm.trans hx318_3)
          injection ea_ with ea_ en_ ec_
          subst ea_
          subst ec_
          clear en_
          refine start_ (n:=25) (S:=fun w'=>w'.cell? (ad315.add ((x13_1).toNat * 4))=some (.int .i64 ((rd_T48 l0 x13_1).f0))∧w'.cell? ⟨(ad315.add ((x13_1).toNat * 4)).block,(ad315.add ((x13_1).toNat * 4)).off+1,none⟩=some (.bool ((rd_T48 l0 x13_1).f1.f0))∧w'.cell? ⟨(ad315.add ((x13_1).toNat * 4)).block,(ad315.add ((x13_1).toNat * 4)).off+2,none⟩=some (.slice A315_2 ((rd_T48 l0 x13_1).f1.f1).length c315_2)∧w'.cell? ⟨(ad315.add ((x13_1).toNat * 4)).block,(ad315.add ((x13_1).toNat * 4)).off+3,none⟩=some (.slice A315_3 ((rd_T48 l0 x13_1).f1.f2).length c315_3)∧w'.cell? (ad316.add ((x13_1).toNat * 4))=some (.int .i64 ((rd_T48 l1 x13_1).f0))∧w'.cell? ⟨(ad316.add ((x13_1).toNat * 4)).block,(ad316.add ((x13_1).toNat * 4)).off+1,none⟩=some (.bool ((rd_T48 l1 x13_1).f1.f0))∧w'.cell? ⟨(ad316.add ((x13_1).toNat * 4)).block,(ad316.add ((x13_1).toNat * 4)).off+2,none⟩=some (.slice A316_2 ((rd_T48 l1 x13_1).f1.f1).length c316_2)∧w'.cell? ⟨(ad316.add ((x13_1).toNat * 4)).block,(ad316.add ((x13_1).toNat * 4)).off+3,none⟩=some (.slice A316_3 ((rd_T48 l1 x13_1).f1.f2).length c316_3)∧w'.cell? (ad315.add ((x13_1).toNat * 4))=some (.int .i64 ((rd_T48 l0 x13_1).f0))∧w'.cell? ⟨(ad315.add ((x13_1).toNat * 4)).block,(ad315.add ((x13_1).toNat * 4)).off+1,none⟩=some (.bool ((rd_T48 l0 x13_1).f1.f0))∧w'.cell? ⟨(ad315.add ((x13_1).toNat * 4)).block,(ad315.add ((x13_1).toNat * 4)).off+2,none⟩=some (.slice A315_2 ((rd_T48 l0 x13_1).f1.f1).length c315_2)∧w'.cell? ⟨(ad315.add ((x13_1).toNat * 4)).block,(ad315.add ((x13_1).toNat * 4)).off+3,none⟩=some (.slice A315_3 ((rd_T48 l0 x13_1).f1.f2).length c315_3)∧w'.cell? (ad316.add ((x13_1).toNat * 4))=some (.int .i64 ((rd_T48 l1 x13_1).f0))∧w'.cell? ⟨(ad316.add ((x13_1).toNat * 4)).block,(ad316.add ((x13_1).toNat * 4)).off+1,none⟩=some (.bool ((rd_T48 l1 x13_1).f1.f0))∧w'.cell? ⟨(ad316.add ((x13_1).toNat * 4)).block,(ad316.add ((x13_1).toNat * 4)).off+2,none⟩=some (.slice A316_2 ((rd_T48 l1 x13_1).f1.f1).length c316_2)∧w'.cell? ⟨(ad316.add ((x13_1).toNat * 4)).block,(ad316.add ((x13_1).toNat * 4)).off+3,none⟩=some (.slice A316_3 ((rd_T48 l1 x13_1).f1.f2).length c316_3)) (ds:=[]) #[false,false,false,false,false,false,false,false,false,false,false,false,false,false,false,false,false,false,false,false,false,false,false,false,false] (by kernel_rfl) rfl rfl ⟨((HB.out.cell (World.block_lt_of_cell? w _ hw315_0)).trans hw315_0),((HB.out.cell (World.block_lt_of_cell? w _ hw315_1)).trans hw315_1),((HB.out.cell (World.block_lt_of_cell? w _ hw315_2)).trans hw315_2),((HB.out.cell (World.block_lt_of_cell? w _ hw315_3)).trans hw315_3),((HB.out.cell (World.block_lt_of_cell? w _ hw316_0)).trans hw316_0),((HB.out.cell (World.block_lt_of_cell? w _ hw316_1)).trans hw316_1),((HB.out.cell (World.block_lt_of_cell? w _ hw316_2)).trans hw316_2),((HB.out.cell (World.block_lt_of_cell? w _ hw316_3)).trans hw316_3),((HB.out.cell (World.block_lt_of_cell? w _ hw317_0)).trans hw317_0),((HB.out.cell (World.block_lt_of_cell? w _ hw317_1)).trans hw317_1),((HB.out.cell (World.block_lt_of_cell? w _ hw317_2)).trans hw317_2),((HB.out.cell (World.block_lt_of_cell? w _ hw317_3)).trans hw317_3),((HB.out.cell (World.block_lt_of_cell? w _ hw318_0)).trans hw318_0),((HB.out.cell (World.block_lt_of_cell? w _ hw318_1)).trans hw318_1),((HB.out.cell (World.block_lt_of_cell? w _ hw318_2)).trans hw318_2),((HB.out.cell (World.block_lt_of_cell? w _ hw318_3)).trans hw318_3)⟩ (fun hHeld=>?_);refine with_tabW laws_wDone.tab6 laws_wDone.bits6 (fun HT_ HW_=>?_)
          generalize wr.drew=w11 at HB HR315_2 HR315_3 HR316_2 HR316_3 HR317_2 HR317_3 HR318_2 HR318_3 hx315_0 hx315_1 hx315_2 hx315_3 hx316_0 hx316_1 hx316_2 hx316_3 hx317_0 hx317_1 hx317_2 hx317_3 hx318_0 hx318_1 hx318_2 hx318_3 hHeld ⊢
          refine pure_ (i:=0) (N:=some 16) (v:=?_) (a':=?_) #[true,false,false,false,false,false,false,false,false,false,false,false,false,false,false,false,false,false,false,false,false,false,false,false,false] rfl rfl (any_of HT_.out (by kernel_rfl)) (fun _ _ _ h=>h) (Or.inl ⟨by rfl,?_⟩) ?_ ?_
          rotate_left
          ·intro w'
           go_simp
           with_reducible rfl
          rotate_left
          ·simp only [Act.put,List.setIfInBounds_toArray,List.set_cons_zero,List.set_cons_succ,i64_w,i32_w]
           rfl
          refine pure_ (i:=1) (N:=some 17) (v:=?_) (a':=?_) #[true,true,false,false,false,false,false,false,false,false,false,false,false,false,false,false,false,false,false,false,false,false,false,false,false] rfl rfl (any_of HT_.out (by kernel_rfl)) (fun _ _ _ h=>h) (Or.inl ⟨by rfl,?_⟩) ?_ ?_
          rotate_left
          ·intro w'
           go_simp
           with_reducible rfl
          rotate_left
          ·simp only [Act.put,List.setIfInBounds_toArray,List.set_cons_zero,List.set_cons_succ,i64_w,i32_w]
           rfl
          refine pure_ (i:=2) (N:=some 18) (v:=?_) (a':=?_) #[true,true,true,false,false,false,false,false,false,false,false,false,false,false,false,false,false,false,false,false,false,false,false,false,false] rfl rfl (any_of HT_.out (by kernel_rfl)) (fun _ _ _ h=>h) (Or.inl ⟨by rfl,?_⟩) ?_ ?_
          rotate_left
          ·intro w'
           go_simp
           with_reducible rfl
          rotate_left
          ·simp only [Act.put,List.setIfInBounds_toArray,List.set_cons_zero,List.set_cons_succ,i64_w,i32_w]
           rfl
          refine pure_ (i:=3) (N:=some 19) (v:=?_) (a':=?_) #[true,true,true,true,false,false,false,false,false,false,false,false,false,false,false,false,false,false,false,false,false,false,false,false,false] rfl rfl (any_of HT_.out (by kernel_rfl)) (fun _ _ _ h=>h) (Or.inl ⟨by rfl,?_⟩) ?_ ?_
          rotate_left
          ·intro w'
           go_simp
           with_reducible rfl
          rotate_left
          ·simp only [Act.put,List.setIfInBounds_toArray,List.set_cons_zero,List.set_cons_succ,i64_w,i32_w]
           rfl
          refine pure_ (i:=5) (N:=some 21) (v:=?_) (a':=?_) #[true,true,true,true,false,true,false,false,false,false,false,false,false,false,false,false,false,false,false,false,false,false,false,false,false] rfl rfl (any_of HT_.out (by kernel_rfl)) (fun _ _ _ h=>h) (Or.inl ⟨by rfl,?_⟩) ?_ ?_
          rotate_left
          ·intro w'
           go_simp
           with_reducible rfl
          rotate_left
          ·simp only [Act.put,List.setIfInBounds_toArray,List.set_cons_zero,List.set_cons_succ,i64_w,i32_w]
           rfl
          refine pure_ (i:=6) (N:=some 22) (v:=?_) (a':=?_) #[true,true,true,true,false,true,true,false,false,false,false,false,false,false,false,false,false,false,false,false,false,false,false,false,false] rfl rfl (any_of HT_.out (by kernel_rfl)) (fun _ _ _ h=>h) (Or.inl ⟨by rfl,?_⟩) ?_ ?_
          rotate_left
          ·intro w'
           go_simp
           with_reducible rfl
          rotate_left
          ·simp only [Act.put,List.setIfInBounds_toArray,List.set_cons_zero,List.set_cons_succ,i64_w,i32_w]
           rfl
          refine pure_ (i:=7) (N:=some 23) (v:=?_) (a':=?_) #[true,true,true,true,false,true,true,true,false,false,false,false,false,false,false,false,false,false,false,false,false,false,false,false,false] rfl rfl (any_of HT_.out (by kernel_rfl)) (fun _ _ _ h=>h) (Or.inl ⟨by rfl,?_⟩) ?_ ?_
          rotate_left
          ·intro w'
           go_simp
           with_reducible rfl
          rotate_left
          ·simp only [Act.put,List.setIfInBounds_toArray,List.set_cons_zero,List.set_cons_succ,i64_w,i32_w]
           rfl
          refine pure_ (i:=8) (N:=some 24) (v:=?_) (a':=?_) #[true,true,true,true,false,true,true,true,true,false,false,false,false,false,false,false,false,false,false,false,false,false,false,false,false] rfl rfl (any_of HT_.out (by kernel_rfl)) (fun _ _ _ h=>h) (Or.inl ⟨by rfl,?_⟩) ?_ ?_
          rotate_left
          ·intro w'
           go_simp
           with_reducible rfl
          rotate_left
          ·simp only [Act.put,List.setIfInBounds_toArray,List.set_cons_zero,List.set_cons_succ,i64_w,i32_w]
           rfl
          refine take_ (i:=4) (N:=some 20) (v:=?_) (a':=?_) #[true,true,true,true,true,true,true,true,true,false,false,false,false,false,false,false,false,false,false,false,false,false,false,false,false] rfl rfl (take_ofW HT_.out HW_.out (by kernel_rfl)) (fun _ _ _ h=>h) (Or.inl ⟨by rfl,?_⟩) hHeld ?_ ?_
          rotate_left
          ·rintro w' ⟨s0,s1,s2,s3,s4,s5,s6,s7,s8,s9,s10,s11,s12,s13,s14,s15⟩
           go_simp
           with_reducible rfl
          rotate_left
          ·simp only [Act.put,List.setIfInBounds_toArray,List.set_cons_zero,List.set_cons_succ,i64_w,i32_w]
           rfl
          refine take_ (i:=9) (N:=some 25) (v:=?_) (a':=?_) #[true,true,true,true,true,true,true,true,true,true,false,false,false,false,false,false,false,false,false,false,false,false,false,false,false] rfl rfl (take_ofW HT_.out HW_.out (by kernel_rfl)) (fun _ _ _ h=>h) (Or.inl ⟨by rfl,?_⟩) hHeld ?_ ?_
          rotate_left
          ·rintro w' ⟨s0,s1,s2,s3,s4,s5,s6,s7,s8,s9,s10,s11,s12,s13,s14,s15⟩
           go_simp
           with_reducible rfl
          rotate_left
          ·simp only [Act.put,List.setIfInBounds_toArray,List.set_cons_zero,List.set_cons_succ,i64_w,i32_w]
           rfl
          refine pure_ (i:=10) (N:=some 26) (v:=?_) (a':=?_) #[true,true,true,true,true,true,true,true,true,true,true,false,false,false,false,false,false,false,false,false,false,false,false,false,false] rfl rfl (any_of HT_.out (by kernel_rfl)) (fun _ _ _ h=>h) (Or.inl ⟨by rfl,?_⟩) ?_ ?_
          rotate_left
          ·intro w'
           go_simp
           with_reducible rfl
          rotate_left
          ·simp only [Act.put,List.setIfInBounds_toArray,List.set_cons_zero,List.set_cons_succ,i64_w,i32_w]
           rfl
          refine pure_ (i:=11) (N:=some 27) (v:=?_) (a':=?_) #[true,true,true,true,true,true,true,true,true,true,true,true,false,false,false,false,false,false,false,false,false,false,false,false,false] rfl rfl (any_of HT_.out (by kernel_rfl)) (fun _ _ _ h=>h) (Or.inl ⟨by rfl,?_⟩) ?_ ?_
          rotate_left
          ·intro w'
           go_simp
           with_reducible rfl
          rotate_left
          ·simp only [Act.put,List.setIfInBounds_toArray,List.set_cons_zero,List.set_cons_succ,i64_w,i32_w]
           rfl
          refine pure_ (i:=12) (N:=some 28) (v:=?_) (a':=?_) #[true,true,true,true,true,true,true,true,true,true,true,true,true,false,false,false,false,false,false,false,false,false,false,false,false] rfl rfl (any_of HT_.out (by kernel_rfl)) (fun _ _ _ h=>h) (Or.inl ⟨by rfl,?_⟩) ?_ ?_
          rotate_left
          ·intro w'
           go_simp
           with_reducible rfl
          rotate_left
          ·simp only [Act.put,List.setIfInBounds_toArray,List.set_cons_zero,List.set_cons_succ,i64_w,i32_w]
           rfl
          refine pure_ (i:=13) (N:=some 29) (v:=?_) (a':=?_) #[true,true,true,true,true,true,true,true,true,true,true,true,true,true,false,false,false,false,false,false,false,false,false,false,false] rfl rfl (any_of HT_.out (by kernel_rfl)) (fun _ _ _ h=>h) (Or.inl ⟨by rfl,?_⟩) ?_ ?_
          rotate_left
          ·intro w'
           go_simp
           with_reducible rfl
          rotate_left
          ·simp only [Act.put,List.setIfInBounds_toArray,List.set_cons_zero,List.set_cons_succ,i64_w,i32_w]
           rfl
          refine pure_ (i:=14) (N:=some 30) (v:=?_) (a':=?_) #[true,true,true,true,true,true,true,true,true,true,true,true,true,true,true,false,false,false,false,false,false,false,false,false,false] rfl rfl (any_of HT_.out (by kernel_rfl)) (fun _ _ _ h=>h) (Or.inl ⟨by rfl,?_⟩) ?_ ?_
          rotate_left
          ·intro w'
           go_simp
           with_reducible rfl
          rotate_left
          ·simp only [Act.put,List.setIfInBounds_toArray,List.set_cons_zero,List.set_cons_succ,i64_w,i32_w]
           rfl
          refine pure_ (i:=15) (N:=some 31) (v:=?_) (a':=?_) #[true,true,true,true,true,true,true,true,true,true,true,true,true,true,true,true,false,false,false,false,false,false,false,false,false] rfl rfl (any_of HT_.out (by kernel_rfl)) (fun _ _ _ h=>h) (Or.inl ⟨by rfl,?_⟩) ?_ ?_
          rotate_left
          ·intro w'
           go_simp
           with_reducible rfl
          rotate_left
          ·simp only [Act.put,List.setIfInBounds_toArray,List.set_cons_zero,List.set_cons_succ,i64_w,i32_w]
           rfl
          refine pure_ (i:=17) (N:=some 33) (v:=?_) (a':=?_) #[true,true,true,true,true,true,true,true,true,true,true,true,true,true,true,true,false,true,false,false,false,false,false,false,false] rfl rfl (any_of HT_.out (by kernel_rfl)) (fun _ _ _ h=>h) (Or.inl ⟨by rfl,?_⟩) ?_ ?_
          rotate_left
          ·intro w'
           go_simp
           with_reducible rfl
          rotate_left
          ·simp only [Act.put,List.setIfInBounds_toArray,List.set_cons_zero,List.set_cons_succ,i64_w,i32_w]
           rfl
          refine pure_ (i:=18) (N:=some 34) (v:=?_) (a':=?_) #[true,true,true,true,true,true,true,true,true,true,true,true,true,true,true,true,false,true,true,false,false,false,false,false,false] rfl rfl (any_of HT_.out (by kernel_rfl)) (fun _ _ _ h=>h) (Or.inl ⟨by rfl,?_⟩) ?_ ?_
          rotate_left
          ·intro w'
           go_simp
           with_reducible rfl
          rotate_left
          ·simp only [Act.put,List.setIfInBounds_toArray,List.set_cons_zero,List.set_cons_succ,i64_w,i32_w]
           rfl
          refine pure_ (i:=19) (N:=some 35) (v:=?_) (a':=?_) #[true,true,true,true,true,true,true,true,true,true,true,true,true,true,true,true,false,true,true,true,false,false,false,false,false] rfl rfl (any_of HT_.out (by kernel_rfl)) (fun _ _ _ h=>h) (Or.inl ⟨by rfl,?_⟩) ?_ ?_
          rotate_left
          ·intro w'
           go_simp
           with_reducible rfl
          rotate_left
          ·simp only [Act.put,List.setIfInBounds_toArray,List.set_cons_zero,List.set_cons_succ,i64_w,i32_w]
           rfl
          refine pure_ (i:=20) (N:=some 36) (v:=?_) (a':=?_) #[true,true,true,true,true,true,true,true,true,true,true,true,true,true,true,true,false,true,true,true,true,false,false,false,false] rfl rfl (any_of HT_.out (by kernel_rfl)) (fun _ _ _ h=>h) (Or.inl ⟨by rfl,?_⟩) ?_ ?_
          rotate_left
          ·intro w'
           go_simp
           with_reducible rfl
          rotate_left
          ·simp only [Act.put,List.setIfInBounds_toArray,List.set_cons_zero,List.set_cons_succ,i64_w,i32_w]
           rfl
          refine take_ (i:=16) (N:=some 32) (v:=?_) (a':=?_) #[true,true,true,true,true,true,true,true,true,true,true,true,true,true,true,true,true,true,true,true,true,false,false,false,false] rfl rfl (take_ofW HT_.out HW_.out (by kernel_rfl)) (fun _ _ _ h=>h) (Or.inl ⟨by rfl,?_⟩) hHeld ?_ ?_
          rotate_left
          ·rintro w' ⟨s0,s1,s2,s3,s4,s5,s6,s7,s8,s9,s10,s11,s12,s13,s14,s15⟩
           go_simp
           with_reducible rfl
          rotate_left
          ·simp only [Act.put,List.setIfInBounds_toArray,List.set_cons_zero,List.set_cons_succ,i64_w,i32_w]
           rfl
          refine take_ (i:=21) (N:=some 37) (v:=?_) (a':=?_) #[true,true,true,true,true,true,true,true,true,true,true,true,true,true,true,true,true,true,true,true,true,true,false,false,false] rfl rfl (take_ofW HT_.out HW_.out (by kernel_rfl)) (fun _ _ _ h=>h) (Or.inl ⟨by rfl,?_⟩) hHeld ?_ ?_
          rotate_left
          ·rintro w' ⟨s0,s1,s2,s3,s4,s5,s6,s7,s8,s9,s10,s11,s12,s13,s14,s15⟩
           go_simp
           with_reducible rfl
          rotate_left
          ·simp only [Act.put,List.setIfInBounds_toArray,List.set_cons_zero,List.set_cons_succ,i64_w,i32_w]
           rfl
          refine one_ (i:=22) (N:=some 38) #[true,true,true,true,true,true,true,true,true,true,true,true,true,true,true,true,true,true,true,true,true,true,true,false,false] rfl rfl (one_of HT_.out (by kernel_rfl)) (by decide) (fun K hK=>?_)
          refine goes_ Try.func33 (by kernel_rfl) rfl #[.agg #[.bool ((rd_T48 l0 x13_1).f1.f0),.slice A315_2 ((rd_T48 l0 x13_1).f1.f1).length c315_2,.slice A315_3 ((rd_T48 l0 x13_1).f1.f2).length c315_3],.agg #[.bool ((rd_T48 l1 x13_1).f1.f0),.slice A316_2 ((rd_T48 l1 x13_1).f1.f1).length c316_2,.slice A316_3 ((rd_T48 l1 x13_1).f1.f2).length c316_3]] (by rfl) rfl rfl (by (try simp only [List.map_toArray,List.map_cons,List.map_nil]);first|done|rfl|(simp only [List.length_drop,List.length_take];rfl)) ?_
          with_reducible refine (laws_wState.calls k1 ((rd_T48 l0 x13_1).f1.f0) _ _ ((rd_T48 l0 x13_1).f1.f1) _ _ ((rd_T48 l0 x13_1).f1.f2) ((rd_T48 l1 x13_1).f1.f0) _ _ ((rd_T48 l1 x13_1).f1.f1) _ _ ((rd_T48 l1 x13_1).f1.f2) true _ ?side1 ?side2 ?side3 ?side4 ?side5 ?side6 ?side7 ?side8 A9.out).mono ?_
          (case side1=>repeat (first|exact (Kd.C_below HR317_2.out HB.out)|(with_reducible refine Kd.C_alloc ?_ _)|(with_reducible refine Kd.C_drewN ?_ _)|(with_reducible refine Kd.C_drew ?_)))
          (case side2=>exact HC317_2.out)
          (case side3=>repeat (first|exact (Kd.C_below HR317_3.out HB.out)|(with_reducible refine Kd.C_alloc ?_ _)|(with_reducible refine Kd.C_drewN ?_ _)|(with_reducible refine Kd.C_drew ?_)))
          (case side4=>exact HC317_3.out)
          (case side5=>repeat (first|exact (Kd.C_below HR318_2.out HB.out)|(with_reducible refine Kd.C_alloc ?_ _)|(with_reducible refine Kd.C_drewN ?_ _)|(with_reducible refine Kd.C_drew ?_)))
          (case side6=>exact HC318_2.out)
          (case side7=>repeat (first|exact (Kd.C_below HR318_3.out HB.out)|(with_reducible refine Kd.C_alloc ?_ _)|(with_reducible refine Kd.C_drewN ?_ _)|(with_reducible refine Kd.C_drew ?_)))
          (case side8=>exact HC318_3.out)
          rintro e w12 ⟨rfl,hb⟩
          refine ⟨_,rfl,?_⟩
          have n0_:=Aside0.mk (below_step (by repeat (first|(with_reducible first|exact HB.out|apply below_alloc|apply pw_below_drewN|apply below_drew1)|exact HB.out)) hb)
          clear HB
          have HB:=n0_
          clear n0_
          (try clear hb)
          (try clear hb2)
          (try clear hk)
          (try clear hi)
          refine hK.out _ _ ⟨((HB.out.cell (World.block_lt_of_cell? w _ hw315_0)).trans hw315_0),((HB.out.cell (World.block_lt_of_cell? w _ hw315_1)).trans hw315_1),((HB.out.cell (World.block_lt_of_cell? w _ hw315_2)).trans hw315_2),((HB.out.cell (World.block_lt_of_cell? w _ hw315_3)).trans hw315_3),((HB.out.cell (World.block_lt_of_cell? w _ hw316_0)).trans hw316_0),((HB.out.cell (World.block_lt_of_cell? w _ hw316_1)).trans hw316_1),((HB.out.cell (World.block_lt_of_cell? w _ hw316_2)).trans hw316_2),((HB.out.cell (World.block_lt_of_cell? w _ hw316_3)).trans hw316_3),((HB.out.cell (World.block_lt_of_cell? w _ hw317_0)).trans hw317_0),((HB.out.cell (World.block_lt_of_cell? w _ hw317_1)).trans hw317_1),((HB.out.cell (World.block_lt_of_cell? w _ hw317_2)).trans hw317_2),((HB.out.cell (World.block_lt_of_cell? w _ hw317_3)).trans hw317_3),((HB.out.cell (World.block_lt_of_cell? w _ hw318_0)).trans hw318_0),((HB.out.cell (World.block_lt_of_cell? w _ hw318_1)).trans hw318_1),((HB.out.cell (World.block_lt_of_cell? w _ hw318_2)).trans hw318_2),((HB.out.cell (World.block_lt_of_cell? w _ hw318_3)).trans hw318_3)⟩ (fun hHeld=>?_)
          clear hK K
          refine norm_ (a':=?_) ?_ ?_
          rotate_left
          ·show Act.put _ (some 38) _=_
           simp only [Act.put,List.setIfInBounds_toArray,List.set_cons_zero,List.set_cons_succ,i64_w,i32_w]
           rfl
          refine pure_ (i:=23) (N:=some 39) (v:=?_) (a':=?_) #[true,true,true,true,true,true,true,true,true,true,true,true,true,true,true,true,true,true,true,true,true,true,true,true,false] rfl rfl (any_of HT_.out (by kernel_rfl)) (fun _ _ _ h=>h) (Or.inl ⟨by rfl,?_⟩) ?_ ?_
          rotate_left
          ·intro w'
           go_simp
           with_reducible rfl
          rotate_left
          ·simp only [Act.put,List.setIfInBounds_toArray,List.set_cons_zero,List.set_cons_succ,i64_w,i32_w]
           rfl
          refine pure_ (i:=24) (N:=some 40) (v:=?_) (a':=?_) #[true,true,true,true,true,true,true,true,true,true,true,true,true,true,true,true,true,true,true,true,true,true,true,true,true] rfl rfl (any_of HT_.out (by kernel_rfl)) (fun _ _ _ h=>h) (Or.inl ⟨by rfl,?_⟩) ?_ ?_
          rotate_left
          ·intro w'
           go_simp
           with_reducible rfl
          rotate_left
          ·simp only [Act.put,List.setIfInBounds_toArray,List.set_cons_zero,List.set_cons_succ,i64_w,i32_w]
           rfl
          refine done_ (done_of HT_.out (by kernel_rfl)) ?_
          try go_wp2
          go_roundg k1
          case measure=>have:=HK1.out;omega
          case rel=>exact ⟨(wrap64 (x13_1+1)),(by first|rfl|(simp;done)|(simp [*];done)),H',⟨by have:=HK1.out;omega⟩,⟨by repeat (first|(with_reducible first|exact HB.out|apply below_alloc|apply pw_below_drewN|apply below_drew1)|exact HB.out)⟩⟩
         replace c10:=Bool.eq_false_iff.mpr c10
         subst c10
         have H1:(some false)=some r:=by rw [if_neg (show ¬ (false=true) by decide)] at H;exact H
         clear H
         have H:=H1
         clear H1
         obtain rfl:=Option.some.inj H
         try go_wp2
         have n0_:=Aside0.mk (below_drew1 HB.out)
         clear HB
         have HB:=n0_
         clear n0_
         have p315:0≤(x13_1:Int):=of_decide_eq_true (by first|(with_reducible assumption)|assumption)
         have q315:x13_1<(l0.length:Int):=of_decide_eq_true (by first|(with_reducible assumption)|assumption)
         obtain ⟨ad315,A315_2,c315_2,A315_3,c315_3,e315,hx315_0,hx315_1,hx315_2,hx315_3,hl315_2,hi315_2,hl315_3,hi315_3⟩:=at_T48 HR0.out x13_1 p315 q315
         have hw315_3:=hx315_3
         have hw315_2:=hx315_2
         have hw315_1:=hx315_1
         have hw315_0:=hx315_0
         cases e315
         replace hx315_0:=(HB.out.cell (World.block_lt_of_cell? w _ hx315_0)).trans hx315_0
         replace hx315_1:=(HB.out.cell (World.block_lt_of_cell? w _ hx315_1)).trans hx315_1
         replace hx315_2:=(HB.out.cell (World.block_lt_of_cell? w _ hx315_2)).trans hx315_2
         replace hx315_3:=(HB.out.cell (World.block_lt_of_cell? w _ hx315_3)).trans hx315_3
         have HR315_2:=Aside0.mk hi315_2
         have HC315_2:=Aside0.mk hl315_2
         clear hi315_2 hl315_2
         have HR315_3:=Aside0.mk hi315_3
         have HC315_3:=Aside0.mk hl315_3
         clear hi315_3 hl315_3
         replace p315:=eq_true p315
         replace q315:=eq_true q315
         have p316:0≤(x13_1:Int):=of_decide_eq_true (by first|(with_reducible assumption)|assumption)
         have q316:x13_1<(l1.length:Int):=of_decide_eq_true (by first|(with_reducible assumption)|assumption)
         obtain ⟨ad316,A316_2,c316_2,A316_3,c316_3,e316,hx316_0,hx316_1,hx316_2,hx316_3,hl316_2,hi316_2,hl316_3,hi316_3⟩:=at_T48 HR1.out x13_1 p316 q316
         have hw316_3:=hx316_3
         have hw316_2:=hx316_2
         have hw316_1:=hx316_1
         have hw316_0:=hx316_0
         cases e316
         replace hx316_0:=(HB.out.cell (World.block_lt_of_cell? w _ hx316_0)).trans hx316_0
         replace hx316_1:=(HB.out.cell (World.block_lt_of_cell? w _ hx316_1)).trans hx316_1
         replace hx316_2:=(HB.out.cell (World.block_lt_of_cell? w _ hx316_2)).trans hx316_2
         replace hx316_3:=(HB.out.cell (World.block_lt_of_cell? w _ hx316_3)).trans hx316_3
         have HR316_2:=Aside0.mk hi316_2
         have HC316_2:=Aside0.mk hl316_2
         clear hi316_2 hl316_2
         have HR316_3:=Aside0.mk hi316_3
         have HC316_3:=Aside0.mk hl316_3
         clear hi316_3 hl316_3
         replace p316:=eq_true p316
         replace q316:=eq_true q316
         have p317:0≤(x13_1:Int):=of_decide_eq_true (by first|(with_reducible assumption)|assumption)
         have q317:x13_1<(l0.length:Int):=of_decide_eq_true (by first|(with_reducible assumption)|assumption)
         obtain ⟨ad317,A317_2,c317_2,A317_3,c317_3,e317,hx317_0,hx317_1,hx317_2,hx317_3,hl317_2,hi317_2,hl317_3,hi317_3⟩:=at_T48 HR0.out x13_1 p317 q317
         have hw317_3:=hx317_3
         have hw317_2:=hx317_2
         have hw317_1:=hx317_1
         have hw317_0:=hx317_0
         obtain rfl:ad315=ad317:=(by injection e317)
         replace hx317_0:=(HB.out.cell (World.block_lt_of_cell? w _ hx317_0)).trans hx317_0
         replace hx317_1:=(HB.out.cell (World.block_lt_of_cell? w _ hx317_1)).trans hx317_1
         replace hx317_2:=(HB.out.cell (World.block_lt_of_cell? w _ hx317_2)).trans hx317_2
         replace hx317_3:=(HB.out.cell (World.block_lt_of_cell? w _ hx317_3)).trans hx317_3
         have HR317_2:=Aside0.mk hi317_2
         have HC317_2:=Aside0.mk hl317_2
         clear hi317_2 hl317_2
         have HR317_3:=Aside0.mk hi317_3
         have HC317_3:=Aside0.mk hl317_3
         clear hi317_3 hl317_3
         replace p317:=eq_true p317
         replace q317:=eq_true q317
         have ea_:=Option.some.inj (hx315_2.symm.trans hx317_2)
         injection ea_ with ea_ en_ ec_
         subst ea_
         subst ec_
         clear en_
         have ea_:=Option.some.inj (hx315_3.symm.trans hx317_3)
         injection ea_ with ea_ en_ ec_
         subst ea_
         subst ec_
         clear en_
         have p318:0≤(x13_1:Int):=of_decide_eq_true (by first|(with_reducible assumption)|assumption)
         have q318:x13_1<(l1.length:Int):=of_decide_eq_true (by first|(with_reducible assumption)|assumption)
         obtain ⟨ad318,A318_2,c318_2,A318_3,c318_3,e318,hx318_0,hx318_1,hx318_2,hx318_3,hl318_2,hi318_2,hl318_3,hi318_3⟩:=at_T48 HR1.out x13_1 p318 q318
         have hw318_3:=hx318_3
         have hw318_2:=hx318_2
         have hw318_1:=hx318_1
         have hw318_0:=hx318_0
         obtain rfl:ad316=ad318:=(by injection e318)
         replace hx318_0:=(HB.out.cell (World.block_lt_of_cell? w _ hx318_0)).trans hx318_0
         replace hx318_1:=(HB.out.cell (World.block_lt_of_cell? w _ hx318_1)).trans hx318_1
         replace hx318_2:=(HB.out.cell (World.block_lt_of_cell? w _ hx318_2)).trans hx318_2
         replace hx318_3:=(HB.out.cell (World.block_lt_of_cell? w _ hx318_3)).trans hx318_3
         have HR318_2:=Aside0.mk hi318_2
         have HC318_2:=Aside0.mk hl318_2
         clear hi318_2 hl318_2
         have HR318_3:=Aside0.mk hi318_3
         have HC318_3:=Aside0.mk hl318_3
         clear hi318_3 hl318_3
         replace p318:=eq_true p318
         replace q318:=eq_true q318
         have ea_:=Option.some.inj (hx316_2.symm.trans hx318_2)
         injection ea_ with ea_ en_ ec_
         subst ea_
         subst ec_
         clear en_
         have ea_:=Option.some.inj (hx316_3.symm.trans hx318_3)
         injection ea_ with ea_ en_ ec_
         subst ea_
         subst ec_
         clear en_
         refine start_ (n:=25) (S:=fun w'=>w'.cell? (ad315.add ((x13_1).toNat * 4))=some (.int .i64 ((rd_T48 l0 x13_1).f0))∧w'.cell? ⟨(ad315.add ((x13_1).toNat * 4)).block,(ad315.add ((x13_1).toNat * 4)).off+1,none⟩=some (.bool ((rd_T48 l0 x13_1).f1.f0))∧w'.cell? ⟨(ad315.add ((x13_1).toNat * 4)).block,(ad315.add ((x13_1).toNat * 4)).off+2,none⟩=some (.slice A315_2 ((rd_T48 l0 x13_1).f1.f1).length c315_2)∧w'.cell? ⟨(ad315.add ((x13_1).toNat * 4)).block,(ad315.add ((x13_1).toNat * 4)).off+3,none⟩=some (.slice A315_3 ((rd_T48 l0 x13_1).f1.f2).length c315_3)∧w'.cell? (ad316.add ((x13_1).toNat * 4))=some (.int .i64 ((rd_T48 l1 x13_1).f0))∧w'.cell? ⟨(ad316.add ((x13_1).toNat * 4)).block,(ad316.add ((x13_1).toNat * 4)).off+1,none⟩=some (.bool ((rd_T48 l1 x13_1).f1.f0))∧w'.cell? ⟨(ad316.add ((x13_1).toNat * 4)).block,(ad316.add ((x13_1).toNat * 4)).off+2,none⟩=some (.slice A316_2 ((rd_T48 l1 x13_1).f1.f1).length c316_2)∧w'.cell? ⟨(ad316.add ((x13_1).toNat * 4)).block,(ad316.add ((x13_1).toNat * 4)).off+3,none⟩=some (.slice A316_3 ((rd_T48 l1 x13_1).f1.f2).length c316_3)∧w'.cell? (ad315.add ((x13_1).toNat * 4))=some (.int .i64 ((rd_T48 l0 x13_1).f0))∧w'.cell? ⟨(ad315.add ((x13_1).toNat * 4)).block,(ad315.add ((x13_1).toNat * 4)).off+1,none⟩=some (.bool ((rd_T48 l0 x13_1).f1.f0))∧w'.cell? ⟨(ad315.add ((x13_1).toNat * 4)).block,(ad315.add ((x13_1).toNat * 4)).off+2,none⟩=some (.slice A315_2 ((rd_T48 l0 x13_1).f1.f1).length c315_2)∧w'.cell? ⟨(ad315.add ((x13_1).toNat * 4)).block,(ad315.add ((x13_1).toNat * 4)).off+3,none⟩=some (.slice A315_3 ((rd_T48 l0 x13_1).f1.f2).length c315_3)∧w'.cell? (ad316.add ((x13_1).toNat * 4))=some (.int .i64 ((rd_T48 l1 x13_1).f0))∧w'.cell? ⟨(ad316.add ((x13_1).toNat * 4)).block,(ad316.add ((x13_1).toNat * 4)).off+1,none⟩=some (.bool ((rd_T48 l1 x13_1).f1.f0))∧w'.cell? ⟨(ad316.add ((x13_1).toNat * 4)).block,(ad316.add ((x13_1).toNat * 4)).off+2,none⟩=some (.slice A316_2 ((rd_T48 l1 x13_1).f1.f1).length c316_2)∧w'.cell? ⟨(ad316.add ((x13_1).toNat * 4)).block,(ad316.add ((x13_1).toNat * 4)).off+3,none⟩=some (.slice A316_3 ((rd_T48 l1 x13_1).f1.f2).length c316_3)) (ds:=[]) #[false,false,false,false,false,false,false,false,false,false,false,false,false,false,false,false,false,false,false,false,false,false,false,false,false] (by kernel_rfl) rfl rfl ⟨((HB.out.cell (World.block_lt_of_cell? w _ hw315_0)).trans hw315_0),((HB.out.cell (World.block_lt_of_cell? w _ hw315_1)).trans hw315_1),((HB.out.cell (World.block_lt_of_cell? w _ hw315_2)).trans hw315_2),((HB.out.cell (World.block_lt_of_cell? w _ hw315_3)).trans hw315_3),((HB.out.cell (World.block_lt_of_cell? w _ hw316_0)).trans hw316_0),((HB.out.cell (World.block_lt_of_cell? w _ hw316_1)).trans hw316_1),((HB.out.cell (World.block_lt_of_cell? w _ hw316_2)).trans hw316_2),((HB.out.cell (World.block_lt_of_cell? w _ hw316_3)).trans hw316_3),((HB.out.cell (World.block_lt_of_cell? w _ hw317_0)).trans hw317_0),((HB.out.cell (World.block_lt_of_cell? w _ hw317_1)).trans hw317_1),((HB.out.cell (World.block_lt_of_cell? w _ hw317_2)).trans hw317_2),((HB.out.cell (World.block_lt_of_cell? w _ hw317_3)).trans hw317_3),((HB.out.cell (World.block_lt_of_cell? w _ hw318_0)).trans hw318_0),((HB.out.cell (World.block_lt_of_cell? w _ hw318_1)).trans hw318_1),((HB.out.cell (World.block_lt_of_cell? w _ hw318_2)).trans hw318_2),((HB.out.cell (World.block_lt_of_cell? w _ hw318_3)).trans hw318_3)⟩ (fun hHeld=>?_);refine with_tabW laws_wDone.tab6 laws_wDone.bits6 (fun HT_ HW_=>?_)
         generalize wr.drew=w13 at HB HR315_2 HR315_3 HR316_2 HR316_3 HR317_2 HR317_3 HR318_2 HR318_3 hx315_0 hx315_1 hx315_2 hx315_3 hx316_0 hx316_1 hx316_2 hx316_3 hx317_0 hx317_1 hx317_2 hx317_3 hx318_0 hx318_1 hx318_2 hx318_3 hHeld ⊢
         refine pure_ (i:=0) (N:=some 16) (v:=?_) (a':=?_) #[true,false,false,false,false,false,false,false,false,false,false,false,false,false,false,false,false,false,false,false,false,false,false,false,false] rfl rfl (any_of HT_.out (by kernel_rfl)) (fun _ _ _ h=>h) (Or.inl ⟨by rfl,?_⟩) ?_ ?_
         rotate_left
         ·intro w'
          go_simp
          with_reducible rfl
         rotate_left
         ·simp only [Act.put,List.setIfInBounds_toArray,List.set_cons_zero,List.set_cons_succ,i64_w,i32_w]
          rfl
         refine pure_ (i:=1) (N:=some 17) (v:=?_) (a':=?_) #[true,true,false,false,false,false,false,false,false,false,false,false,false,false,false,false,false,false,false,false,false,false,false,false,false] rfl rfl (any_of HT_.out (by kernel_rfl)) (fun _ _ _ h=>h) (Or.inl ⟨by rfl,?_⟩) ?_ ?_
         rotate_left
         ·intro w'
          go_simp
          with_reducible rfl
         rotate_left
         ·simp only [Act.put,List.setIfInBounds_toArray,List.set_cons_zero,List.set_cons_succ,i64_w,i32_w]
          rfl
         refine pure_ (i:=2) (N:=some 18) (v:=?_) (a':=?_) #[true,true,true,false,false,false,false,false,false,false,false,false,false,false,false,false,false,false,false,false,false,false,false,false,false] rfl rfl (any_of HT_.out (by kernel_rfl)) (fun _ _ _ h=>h) (Or.inl ⟨by rfl,?_⟩) ?_ ?_
         rotate_left
         ·intro w'
          go_simp
          with_reducible rfl
         rotate_left
         ·simp only [Act.put,List.setIfInBounds_toArray,List.set_cons_zero,List.set_cons_succ,i64_w,i32_w]
          rfl
         refine pure_ (i:=3) (N:=some 19) (v:=?_) (a':=?_) #[true,true,true,true,false,false,false,false,false,false,false,false,false,false,false,false,false,false,false,false,false,false,false,false,false] rfl rfl (any_of HT_.out (by kernel_rfl)) (fun _ _ _ h=>h) (Or.inl ⟨by rfl,?_⟩) ?_ ?_
         rotate_left
         ·intro w'
          go_simp
          with_reducible rfl
         rotate_left
         ·simp only [Act.put,List.setIfInBounds_toArray,List.set_cons_zero,List.set_cons_succ,i64_w,i32_w]
          rfl
         refine pure_ (i:=5) (N:=some 21) (v:=?_) (a':=?_) #[true,true,true,true,false,true,false,false,false,false,false,false,false,false,false,false,false,false,false,false,false,false,false,false,false] rfl rfl (any_of HT_.out (by kernel_rfl)) (fun _ _ _ h=>h) (Or.inl ⟨by rfl,?_⟩) ?_ ?_
         rotate_left
         ·intro w'
          go_simp
          with_reducible rfl
         rotate_left
         ·simp only [Act.put,List.setIfInBounds_toArray,List.set_cons_zero,List.set_cons_succ,i64_w,i32_w]
          rfl
         refine pure_ (i:=6) (N:=some 22) (v:=?_) (a':=?_) #[true,true,true,true,false,true,true,false,false,false,false,false,false,false,false,false,false,false,false,false,false,false,false,false,false] rfl rfl (any_of HT_.out (by kernel_rfl)) (fun _ _ _ h=>h) (Or.inl ⟨by rfl,?_⟩) ?_ ?_
         rotate_left
         ·intro w'
          go_simp
          with_reducible rfl
         rotate_left
         ·simp only [Act.put,List.setIfInBounds_toArray,List.set_cons_zero,List.set_cons_succ,i64_w,i32_w]
          rfl
         refine pure_ (i:=7) (N:=some 23) (v:=?_) (a':=?_) #[true,true,true,true,false,true,true,true,false,false,false,false,false,false,false,false,false,false,false,false,false,false,false,false,false] rfl rfl (any_of HT_.out (by kernel_rfl)) (fun _ _ _ h=>h) (Or.inl ⟨by rfl,?_⟩) ?_ ?_
         rotate_left
         ·intro w'
          go_simp
          with_reducible rfl
         rotate_left
         ·simp only [Act.put,List.setIfInBounds_toArray,List.set_cons_zero,List.set_cons_succ,i64_w,i32_w]
          rfl
         refine pure_ (i:=8) (N:=some 24) (v:=?_) (a':=?_) #[true,true,true,true,false,true,true,true,true,false,false,false,false,false,false,false,false,false,false,false,false,false,false,false,false] rfl rfl (any_of HT_.out (by kernel_rfl)) (fun _ _ _ h=>h) (Or.inl ⟨by rfl,?_⟩) ?_ ?_
         rotate_left
         ·intro w'
          go_simp
          with_reducible rfl
         rotate_left
         ·simp only [Act.put,List.setIfInBounds_toArray,List.set_cons_zero,List.set_cons_succ,i64_w,i32_w]
          rfl
         refine take_ (i:=4) (N:=some 20) (v:=?_) (a':=?_) #[true,true,true,true,true,true,true,true,true,false,false,false,false,false,false,false,false,false,false,false,false,false,false,false,false] rfl rfl (take_ofW HT_.out HW_.out (by kernel_rfl)) (fun _ _ _ h=>h) (Or.inl ⟨by rfl,?_⟩) hHeld ?_ ?_
         rotate_left
         ·rintro w' ⟨s0,s1,s2,s3,s4,s5,s6,s7,s8,s9,s10,s11,s12,s13,s14,s15⟩
          go_simp
          with_reducible rfl
         rotate_left
         ·simp only [Act.put,List.setIfInBounds_toArray,List.set_cons_zero,List.set_cons_succ,i64_w,i32_w]
          rfl
         refine take_ (i:=9) (N:=some 25) (v:=?_) (a':=?_) #[true,true,true,true,true,true,true,true,true,true,false,false,false,false,false,false,false,false,false,false,false,false,false,false,false] rfl rfl (take_ofW HT_.out HW_.out (by kernel_rfl)) (fun _ _ _ h=>h) (Or.inl ⟨by rfl,?_⟩) hHeld ?_ ?_
         rotate_left
         ·rintro w' ⟨s0,s1,s2,s3,s4,s5,s6,s7,s8,s9,s10,s11,s12,s13,s14,s15⟩
          go_simp
          with_reducible rfl
         rotate_left
         ·simp only [Act.put,List.setIfInBounds_toArray,List.set_cons_zero,List.set_cons_succ,i64_w,i32_w]
          rfl
         refine pure_ (i:=10) (N:=some 26) (v:=?_) (a':=?_) #[true,true,true,true,true,true,true,true,true,true,true,false,false,false,false,false,false,false,false,false,false,false,false,false,false] rfl rfl (any_of HT_.out (by kernel_rfl)) (fun _ _ _ h=>h) (Or.inl ⟨by rfl,?_⟩) ?_ ?_
         rotate_left
         ·intro w'
          go_simp
          with_reducible rfl
         rotate_left
         ·simp only [Act.put,List.setIfInBounds_toArray,List.set_cons_zero,List.set_cons_succ,i64_w,i32_w]
          rfl
         refine pure_ (i:=11) (N:=some 27) (v:=?_) (a':=?_) #[true,true,true,true,true,true,true,true,true,true,true,true,false,false,false,false,false,false,false,false,false,false,false,false,false] rfl rfl (any_of HT_.out (by kernel_rfl)) (fun _ _ _ h=>h) (Or.inl ⟨by rfl,?_⟩) ?_ ?_
         rotate_left
         ·intro w'
          go_simp
          with_reducible rfl
         rotate_left
         ·simp only [Act.put,List.setIfInBounds_toArray,List.set_cons_zero,List.set_cons_succ,i64_w,i32_w]
          rfl
         refine pure_ (i:=12) (N:=some 28) (v:=?_) (a':=?_) #[true,true,true,true,true,true,true,true,true,true,true,true,true,false,false,false,false,false,false,false,false,false,false,false,false] rfl rfl (any_of HT_.out (by kernel_rfl)) (fun _ _ _ h=>h) (Or.inl ⟨by rfl,?_⟩) ?_ ?_
         rotate_left
         ·intro w'
          go_simp
          with_reducible rfl
         rotate_left
         ·simp only [Act.put,List.setIfInBounds_toArray,List.set_cons_zero,List.set_cons_succ,i64_w,i32_w]
          rfl
         refine pure_ (i:=13) (N:=some 29) (v:=?_) (a':=?_) #[true,true,true,true,true,true,true,true,true,true,true,true,true,true,false,false,false,false,false,false,false,false,false,false,false] rfl rfl (any_of HT_.out (by kernel_rfl)) (fun _ _ _ h=>h) (Or.inl ⟨by rfl,?_⟩) ?_ ?_
         rotate_left
         ·intro w'
          go_simp
          with_reducible rfl
         rotate_left
         ·simp only [Act.put,List.setIfInBounds_toArray,List.set_cons_zero,List.set_cons_succ,i64_w,i32_w]
          rfl
         refine pure_ (i:=14) (N:=some 30) (v:=?_) (a':=?_) #[true,true,true,true,true,true,true,true,true,true,true,true,true,true,true,false,false,false,false,false,false,false,false,false,false] rfl rfl (any_of HT_.out (by kernel_rfl)) (fun _ _ _ h=>h) (Or.inl ⟨by rfl,?_⟩) ?_ ?_
         rotate_left
         ·intro w'
          go_simp
          with_reducible rfl
         rotate_left
         ·simp only [Act.put,List.setIfInBounds_toArray,List.set_cons_zero,List.set_cons_succ,i64_w,i32_w]
          rfl
         refine pure_ (i:=15) (N:=some 31) (v:=?_) (a':=?_) #[true,true,true,true,true,true,true,true,true,true,true,true,true,true,true,true,false,false,false,false,false,false,false,false,false] rfl rfl (any_of HT_.out (by kernel_rfl)) (fun _ _ _ h=>h) (Or.inl ⟨by rfl,?_⟩) ?_ ?_
         rotate_left
         ·intro w'
          go_simp
          with_reducible rfl
         rotate_left
         ·simp only [Act.put,List.setIfInBounds_toArray,List.set_cons_zero,List.set_cons_succ,i64_w,i32_w]
          rfl
         refine pure_ (i:=17) (N:=some 33) (v:=?_) (a':=?_) #[true,true,true,true,true,true,true,true,true,true,true,true,true,true,true,true,false,true,false,false,false,false,false,false,false] rfl rfl (any_of HT_.out (by kernel_rfl)) (fun _ _ _ h=>h) (Or.inl ⟨by rfl,?_⟩) ?_ ?_
         rotate_left
         ·intro w'
          go_simp
          with_reducible rfl
         rotate_left
         ·simp only [Act.put,List.setIfInBounds_toArray,List.set_cons_zero,List.set_cons_succ,i64_w,i32_w]
          rfl
         refine pure_ (i:=18) (N:=some 34) (v:=?_) (a':=?_) #[true,true,true,true,true,true,true,true,true,true,true,true,true,true,true,true,false,true,true,false,false,false,false,false,false] rfl rfl (any_of HT_.out (by kernel_rfl)) (fun _ _ _ h=>h) (Or.inl ⟨by rfl,?_⟩) ?_ ?_
         rotate_left
         ·intro w'
          go_simp
          with_reducible rfl
         rotate_left
         ·simp only [Act.put,List.setIfInBounds_toArray,List.set_cons_zero,List.set_cons_succ,i64_w,i32_w]
          rfl
         refine pure_ (i:=19) (N:=some 35) (v:=?_) (a':=?_) #[true,true,true,true,true,true,true,true,true,true,true,true,true,true,true,true,false,true,true,true,false,false,false,false,false] rfl rfl (any_of HT_.out (by kernel_rfl)) (fun _ _ _ h=>h) (Or.inl ⟨by rfl,?_⟩) ?_ ?_
         rotate_left
         ·intro w'
          go_simp
          with_reducible rfl
         rotate_left
         ·simp only [Act.put,List.setIfInBounds_toArray,List.set_cons_zero,List.set_cons_succ,i64_w,i32_w]
          rfl
         refine pure_ (i:=20) (N:=some 36) (v:=?_) (a':=?_) #[true,true,true,true,true,true,true,true,true,true,true,true,true,true,true,true,false,true,true,true,true,false,false,false,false] rfl rfl (any_of HT_.out (by kernel_rfl)) (fun _ _ _ h=>h) (Or.inl ⟨by rfl,?_⟩) ?_ ?_
         rotate_left
         ·intro w'
          go_simp
          with_reducible rfl
         rotate_left
         ·simp only [Act.put,List.setIfInBounds_toArray,List.set_cons_zero,List.set_cons_succ,i64_w,i32_w]
          rfl
         refine take_ (i:=16) (N:=some 32) (v:=?_) (a':=?_) #[true,true,true,true,true,true,true,true,true,true,true,true,true,true,true,true,true,true,true,true,true,false,false,false,false] rfl rfl (take_ofW HT_.out HW_.out (by kernel_rfl)) (fun _ _ _ h=>h) (Or.inl ⟨by rfl,?_⟩) hHeld ?_ ?_
         rotate_left
         ·rintro w' ⟨s0,s1,s2,s3,s4,s5,s6,s7,s8,s9,s10,s11,s12,s13,s14,s15⟩
          go_simp
          with_reducible rfl
         rotate_left
         ·simp only [Act.put,List.setIfInBounds_toArray,List.set_cons_zero,List.set_cons_succ,i64_w,i32_w]
          rfl
         refine take_ (i:=21) (N:=some 37) (v:=?_) (a':=?_) #[true,true,true,true,true,true,true,true,true,true,true,true,true,true,true,true,true,true,true,true,true,true,false,false,false] rfl rfl (take_ofW HT_.out HW_.out (by kernel_rfl)) (fun _ _ _ h=>h) (Or.inl ⟨by rfl,?_⟩) hHeld ?_ ?_
         rotate_left
         ·rintro w' ⟨s0,s1,s2,s3,s4,s5,s6,s7,s8,s9,s10,s11,s12,s13,s14,s15⟩
          go_simp
          with_reducible rfl
         rotate_left
         ·simp only [Act.put,List.setIfInBounds_toArray,List.set_cons_zero,List.set_cons_succ,i64_w,i32_w]
          rfl
         refine one_ (i:=22) (N:=some 38) #[true,true,true,true,true,true,true,true,true,true,true,true,true,true,true,true,true,true,true,true,true,true,true,false,false] rfl rfl (one_of HT_.out (by kernel_rfl)) (by decide) (fun K hK=>?_)
         refine goes_ Try.func33 (by kernel_rfl) rfl #[.agg #[.bool ((rd_T48 l0 x13_1).f1.f0),.slice A315_2 ((rd_T48 l0 x13_1).f1.f1).length c315_2,.slice A315_3 ((rd_T48 l0 x13_1).f1.f2).length c315_3],.agg #[.bool ((rd_T48 l1 x13_1).f1.f0),.slice A316_2 ((rd_T48 l1 x13_1).f1.f1).length c316_2,.slice A316_3 ((rd_T48 l1 x13_1).f1.f2).length c316_3]] (by rfl) rfl rfl (by (try simp only [List.map_toArray,List.map_cons,List.map_nil]);first|done|rfl|(simp only [List.length_drop,List.length_take];rfl)) ?_
         with_reducible refine (laws_wState.calls k1 ((rd_T48 l0 x13_1).f1.f0) _ _ ((rd_T48 l0 x13_1).f1.f1) _ _ ((rd_T48 l0 x13_1).f1.f2) ((rd_T48 l1 x13_1).f1.f0) _ _ ((rd_T48 l1 x13_1).f1.f1) _ _ ((rd_T48 l1 x13_1).f1.f2) false _ ?side1 ?side2 ?side3 ?side4 ?side5 ?side6 ?side7 ?side8 A9.out).mono ?_
         (case side1=>repeat (first|exact (Kd.C_below HR317_2.out HB.out)|(with_reducible refine Kd.C_alloc ?_ _)|(with_reducible refine Kd.C_drewN ?_ _)|(with_reducible refine Kd.C_drew ?_)))
         (case side2=>exact HC317_2.out)
         (case side3=>repeat (first|exact (Kd.C_below HR317_3.out HB.out)|(with_reducible refine Kd.C_alloc ?_ _)|(with_reducible refine Kd.C_drewN ?_ _)|(with_reducible refine Kd.C_drew ?_)))
         (case side4=>exact HC317_3.out)
         (case side5=>repeat (first|exact (Kd.C_below HR318_2.out HB.out)|(with_reducible refine Kd.C_alloc ?_ _)|(with_reducible refine Kd.C_drewN ?_ _)|(with_reducible refine Kd.C_drew ?_)))
         (case side6=>exact HC318_2.out)
         (case side7=>repeat (first|exact (Kd.C_below HR318_3.out HB.out)|(with_reducible refine Kd.C_alloc ?_ _)|(with_reducible refine Kd.C_drewN ?_ _)|(with_reducible refine Kd.C_drew ?_)))
         (case side8=>exact HC318_3.out)
         rintro e w14 ⟨rfl,hb⟩
         refine ⟨_,rfl,?_⟩
         have n0_:=Aside0.mk (below_step (by repeat (first|(with_reducible first|exact HB.out|apply below_alloc|apply pw_below_drewN|apply below_drew1)|exact HB.out)) hb)
         clear HB
         have HB:=n0_
         clear n0_
         (try clear hb)
         (try clear hb2)
         (try clear hk)
         (try clear hi)
         refine hK.out _ _ ⟨((HB.out.cell (World.block_lt_of_cell? w _ hw315_0)).trans hw315_0),((HB.out.cell (World.block_lt_of_cell? w _ hw315_1)).trans hw315_1),((HB.out.cell (World.block_lt_of_cell? w _ hw315_2)).trans hw315_2),((HB.out.cell (World.block_lt_of_cell? w _ hw315_3)).trans hw315_3),((HB.out.cell (World.block_lt_of_cell? w _ hw316_0)).trans hw316_0),((HB.out.cell (World.block_lt_of_cell? w _ hw316_1)).trans hw316_1),((HB.out.cell (World.block_lt_of_cell? w _ hw316_2)).trans hw316_2),((HB.out.cell (World.block_lt_of_cell? w _ hw316_3)).trans hw316_3),((HB.out.cell (World.block_lt_of_cell? w _ hw317_0)).trans hw317_0),((HB.out.cell (World.block_lt_of_cell? w _ hw317_1)).trans hw317_1),((HB.out.cell (World.block_lt_of_cell? w _ hw317_2)).trans hw317_2),((HB.out.cell (World.block_lt_of_cell? w _ hw317_3)).trans hw317_3),((HB.out.cell (World.block_lt_of_cell? w _ hw318_0)).trans hw318_0),((HB.out.cell (World.block_lt_of_cell? w _ hw318_1)).trans hw318_1),((HB.out.cell (World.block_lt_of_cell? w _ hw318_2)).trans hw318_2),((HB.out.cell (World.block_lt_of_cell? w _ hw318_3)).trans hw318_3)⟩ (fun hHeld=>?_)
         clear hK K
         refine norm_ (a':=?_) ?_ ?_
         rotate_left
         ·show Act.put _ (some 38) _=_
          simp only [Act.put,List.setIfInBounds_toArray,List.set_cons_zero,List.set_cons_succ,i64_w,i32_w]
          rfl
         refine pure_ (i:=23) (N:=some 39) (v:=?_) (a':=?_) #[true,true,true,true,true,true,true,true,true,true,true,true,true,true,true,true,true,true,true,true,true,true,true,true,false] rfl rfl (any_of HT_.out (by kernel_rfl)) (fun _ _ _ h=>h) (Or.inl ⟨by rfl,?_⟩) ?_ ?_
         rotate_left
         ·intro w'
          go_simp
          with_reducible rfl
         rotate_left
         ·simp only [Act.put,List.setIfInBounds_toArray,List.set_cons_zero,List.set_cons_succ,i64_w,i32_w]
          rfl
         refine pure_ (i:=24) (N:=some 40) (v:=?_) (a':=?_) #[true,true,true,true,true,true,true,true,true,true,true,true,true,true,true,true,true,true,true,true,true,true,true,true,true] rfl rfl (any_of HT_.out (by kernel_rfl)) (fun _ _ _ h=>h) (Or.inl ⟨by rfl,?_⟩) ?_ ?_
         rotate_left
         ·intro w'
          go_simp
          with_reducible rfl
         rotate_left
         ·simp only [Act.put,List.setIfInBounds_toArray,List.set_cons_zero,List.set_cons_succ,i64_w,i32_w]
          rfl
         refine done_ (done_of HT_.out (by kernel_rfl)) ?_
         try go_wp2
         go_ret
         exact ⟨by first|rfl|(simp [errW_none,errW_some] <;> rfl)|(simp [*,errW_none,errW_some] <;> rfl),by repeat (first|(with_reducible first|exact HB.out|apply below_alloc|apply pw_below_drewN|apply below_drew1)|exact HB.out)⟩
        rw [if_neg c8] at H
        have c8b0:(((rd_T48 l0 x13_1).f0)==((rd_T48 l1 x13_1).f0))=false:=beq_eq_false_iff_ne.mpr c8
        have c8b1:(((rd_T48 l0 x13_1).f0) != ((rd_T48 l1 x13_1).f0))=true:=bne_iff_ne.mpr c8
        obtain rfl:=Option.some.inj H
        try go_wp2
        have n0_:=Aside0.mk (below_drew1 HB.out)
        clear HB
        have HB:=n0_
        clear n0_
        have p315:0≤(x13_1:Int):=of_decide_eq_true (by first|(with_reducible assumption)|assumption)
        have q315:x13_1<(l0.length:Int):=of_decide_eq_true (by first|(with_reducible assumption)|assumption)
        obtain ⟨ad315,A315_2,c315_2,A315_3,c315_3,e315,hx315_0,hx315_1,hx315_2,hx315_3,hl315_2,hi315_2,hl315_3,hi315_3⟩:=at_T48 HR0.out x13_1 p315 q315
        have hw315_3:=hx315_3
        have hw315_2:=hx315_2
        have hw315_1:=hx315_1
        have hw315_0:=hx315_0
        cases e315
        replace hx315_0:=(HB.out.cell (World.block_lt_of_cell? w _ hx315_0)).trans hx315_0
        replace hx315_1:=(HB.out.cell (World.block_lt_of_cell? w _ hx315_1)).trans hx315_1
        replace hx315_2:=(HB.out.cell (World.block_lt_of_cell? w _ hx315_2)).trans hx315_2
        replace hx315_3:=(HB.out.cell (World.block_lt_of_cell? w _ hx315_3)).trans hx315_3
        have HR315_2:=Aside0.mk hi315_2
        have HC315_2:=Aside0.mk hl315_2
        clear hi315_2 hl315_2
        have HR315_3:=Aside0.mk hi315_3
        have HC315_3:=Aside0.mk hl315_3
        clear hi315_3 hl315_3
        replace p315:=eq_true p315
        replace q315:=eq_true q315
        have p316:0≤(x13_1:Int):=of_decide_eq_true (by first|(with_reducible assumption)|assumption)
        have q316:x13_1<(l1.length:Int):=of_decide_eq_true (by first|(with_reducible assumption)|assumption)
        obtain ⟨ad316,A316_2,c316_2,A316_3,c316_3,e316,hx316_0,hx316_1,hx316_2,hx316_3,hl316_2,hi316_2,hl316_3,hi316_3⟩:=at_T48 HR1.out x13_1 p316 q316
        have hw316_3:=hx316_3
        have hw316_2:=hx316_2
        have hw316_1:=hx316_1
        have hw316_0:=hx316_0
        cases e316
        replace hx316_0:=(HB.out.cell (World.block_lt_of_cell? w _ hx316_0)).trans hx316_0
        replace hx316_1:=(HB.out.cell (World.block_lt_of_cell? w _ hx316_1)).trans hx316_1
        replace hx316_2:=(HB.out.cell (World.block_lt_of_cell? w _ hx316_2)).trans hx316_2
        replace hx316_3:=(HB.out.cell (World.block_lt_of_cell? w _ hx316_3)).trans hx316_3
        have HR316_2:=Aside0.mk hi316_2
        have HC316_2:=Aside0.mk hl316_2
        clear hi316_2 hl316_2
        have HR316_3:=Aside0.mk hi316_3
        have HC316_3:=Aside0.mk hl316_3
        clear hi316_3 hl316_3
        replace p316:=eq_true p316
        replace q316:=eq_true q316
        refine start_ (n:=25) (S:=fun w'=>w'.cell? (ad315.add ((x13_1).toNat * 4))=some (.int .i64 ((rd_T48 l0 x13_1).f0))∧w'.cell? ⟨(ad315.add ((x13_1).toNat * 4)).block,(ad315.add ((x13_1).toNat * 4)).off+1,none⟩=some (.bool ((rd_T48 l0 x13_1).f1.f0))∧w'.cell? ⟨(ad315.add ((x13_1).toNat * 4)).block,(ad315.add ((x13_1).toNat * 4)).off+2,none⟩=some (.slice A315_2 ((rd_T48 l0 x13_1).f1.f1).length c315_2)∧w'.cell? ⟨(ad315.add ((x13_1).toNat * 4)).block,(ad315.add ((x13_1).toNat * 4)).off+3,none⟩=some (.slice A315_3 ((rd_T48 l0 x13_1).f1.f2).length c315_3)∧w'.cell? (ad316.add ((x13_1).toNat * 4))=some (.int .i64 ((rd_T48 l1 x13_1).f0))∧w'.cell? ⟨(ad316.add ((x13_1).toNat * 4)).block,(ad316.add ((x13_1).toNat * 4)).off+1,none⟩=some (.bool ((rd_T48 l1 x13_1).f1.f0))∧w'.cell? ⟨(ad316.add ((x13_1).toNat * 4)).block,(ad316.add ((x13_1).toNat * 4)).off+2,none⟩=some (.slice A316_2 ((rd_T48 l1 x13_1).f1.f1).length c316_2)∧w'.cell? ⟨(ad316.add ((x13_1).toNat * 4)).block,(ad316.add ((x13_1).toNat * 4)).off+3,none⟩=some (.slice A316_3 ((rd_T48 l1 x13_1).f1.f2).length c316_3)) (ds:=[]) #[false,false,false,false,false,false,false,false,false,false,false,false,false,false,false,false,false,false,false,false,false,false,false,false,false] (by kernel_rfl) rfl rfl ⟨((HB.out.cell (World.block_lt_of_cell? w _ hw315_0)).trans hw315_0),((HB.out.cell (World.block_lt_of_cell? w _ hw315_1)).trans hw315_1),((HB.out.cell (World.block_lt_of_cell? w _ hw315_2)).trans hw315_2),((HB.out.cell (World.block_lt_of_cell? w _ hw315_3)).trans hw315_3),((HB.out.cell (World.block_lt_of_cell? w _ hw316_0)).trans hw316_0),((HB.out.cell (World.block_lt_of_cell? w _ hw316_1)).trans hw316_1),((HB.out.cell (World.block_lt_of_cell? w _ hw316_2)).trans hw316_2),((HB.out.cell (World.block_lt_of_cell? w _ hw316_3)).trans hw316_3)⟩ (fun hHeld=>?_);refine with_tabW laws_wDone.tab6 laws_wDone.bits6 (fun HT_ HW_=>?_)
        generalize wr.drew=w15 at HB HR315_2 HR315_3 HR316_2 HR316_3 hx315_0 hx315_1 hx315_2 hx315_3 hx316_0 hx316_1 hx316_2 hx316_3 hHeld ⊢
        refine pure_ (i:=0) (N:=some 16) (v:=?_) (a':=?_) #[true,false,false,false,false,false,false,false,false,false,false,false,false,false,false,false,false,false,false,false,false,false,false,false,false] rfl rfl (any_of HT_.out (by kernel_rfl)) (fun _ _ _ h=>h) (Or.inl ⟨by rfl,?_⟩) ?_ ?_
        rotate_left
        ·intro w'
         go_simp
         with_reducible rfl
        rotate_left
        ·simp only [Act.put,List.setIfInBounds_toArray,List.set_cons_zero,List.set_cons_succ,i64_w,i32_w]
         rfl
        refine pure_ (i:=1) (N:=some 17) (v:=?_) (a':=?_) #[true,true,false,false,false,false,false,false,false,false,false,false,false,false,false,false,false,false,false,false,false,false,false,false,false] rfl rfl (any_of HT_.out (by kernel_rfl)) (fun _ _ _ h=>h) (Or.inl ⟨by rfl,?_⟩) ?_ ?_
        rotate_left
        ·intro w'
         go_simp
         with_reducible rfl
        rotate_left
        ·simp only [Act.put,List.setIfInBounds_toArray,List.set_cons_zero,List.set_cons_succ,i64_w,i32_w]
         rfl
        refine pure_ (i:=2) (N:=some 18) (v:=?_) (a':=?_) #[true,true,true,false,false,false,false,false,false,false,false,false,false,false,false,false,false,false,false,false,false,false,false,false,false] rfl rfl (any_of HT_.out (by kernel_rfl)) (fun _ _ _ h=>h) (Or.inl ⟨by rfl,?_⟩) ?_ ?_
        rotate_left
        ·intro w'
         go_simp
         with_reducible rfl
        rotate_left
        ·simp only [Act.put,List.setIfInBounds_toArray,List.set_cons_zero,List.set_cons_succ,i64_w,i32_w]
         rfl
        refine pure_ (i:=3) (N:=some 19) (v:=?_) (a':=?_) #[true,true,true,true,false,false,false,false,false,false,false,false,false,false,false,false,false,false,false,false,false,false,false,false,false] rfl rfl (any_of HT_.out (by kernel_rfl)) (fun _ _ _ h=>h) (Or.inl ⟨by rfl,?_⟩) ?_ ?_
        rotate_left
        ·intro w'
         go_simp
         with_reducible rfl
        rotate_left
        ·simp only [Act.put,List.setIfInBounds_toArray,List.set_cons_zero,List.set_cons_succ,i64_w,i32_w]
         rfl
        refine pure_ (i:=5) (N:=some 21) (v:=?_) (a':=?_) #[true,true,true,true,false,true,false,false,false,false,false,false,false,false,false,false,false,false,false,false,false,false,false,false,false] rfl rfl (any_of HT_.out (by kernel_rfl)) (fun _ _ _ h=>h) (Or.inl ⟨by rfl,?_⟩) ?_ ?_
        rotate_left
        ·intro w'
         go_simp
         with_reducible rfl
        rotate_left
        ·simp only [Act.put,List.setIfInBounds_toArray,List.set_cons_zero,List.set_cons_succ,i64_w,i32_w]
         rfl
        refine pure_ (i:=6) (N:=some 22) (v:=?_) (a':=?_) #[true,true,true,true,false,true,true,false,false,false,false,false,false,false,false,false,false,false,false,false,false,false,false,false,false] rfl rfl (any_of HT_.out (by kernel_rfl)) (fun _ _ _ h=>h) (Or.inl ⟨by rfl,?_⟩) ?_ ?_
        rotate_left
        ·intro w'
         go_simp
         with_reducible rfl
        rotate_left
        ·simp only [Act.put,List.setIfInBounds_toArray,List.set_cons_zero,List.set_cons_succ,i64_w,i32_w]
         rfl
        refine pure_ (i:=7) (N:=some 23) (v:=?_) (a':=?_) #[true,true,true,true,false,true,true,true,false,false,false,false,false,false,false,false,false,false,false,false,false,false,false,false,false] rfl rfl (any_of HT_.out (by kernel_rfl)) (fun _ _ _ h=>h) (Or.inl ⟨by rfl,?_⟩) ?_ ?_
        rotate_left
        ·intro w'
         go_simp
         with_reducible rfl
        rotate_left
        ·simp only [Act.put,List.setIfInBounds_toArray,List.set_cons_zero,List.set_cons_succ,i64_w,i32_w]
         rfl
        refine pure_ (i:=8) (N:=some 24) (v:=?_) (a':=?_) #[true,true,true,true,false,true,true,true,true,false,false,false,false,false,false,false,false,false,false,false,false,false,false,false,false] rfl rfl (any_of HT_.out (by kernel_rfl)) (fun _ _ _ h=>h) (Or.inl ⟨by rfl,?_⟩) ?_ ?_
        rotate_left
        ·intro w'
         go_simp
         with_reducible rfl
        rotate_left
        ·simp only [Act.put,List.setIfInBounds_toArray,List.set_cons_zero,List.set_cons_succ,i64_w,i32_w]
         rfl
        refine take_ (i:=4) (N:=some 20) (v:=?_) (a':=?_) #[true,true,true,true,true,true,true,true,true,false,false,false,false,false,false,false,false,false,false,false,false,false,false,false,false] rfl rfl (take_ofW HT_.out HW_.out (by kernel_rfl)) (fun _ _ _ h=>h) (Or.inl ⟨by rfl,?_⟩) hHeld ?_ ?_
        rotate_left
        ·rintro w' ⟨s0,s1,s2,s3,s4,s5,s6,s7⟩
         go_simp
         with_reducible rfl
        rotate_left
        ·simp only [Act.put,List.setIfInBounds_toArray,List.set_cons_zero,List.set_cons_succ,i64_w,i32_w]
         rfl
        refine take_ (i:=9) (N:=some 25) (v:=?_) (a':=?_) #[true,true,true,true,true,true,true,true,true,true,false,false,false,false,false,false,false,false,false,false,false,false,false,false,false] rfl rfl (take_ofW HT_.out HW_.out (by kernel_rfl)) (fun _ _ _ h=>h) (Or.inl ⟨by rfl,?_⟩) hHeld ?_ ?_
        rotate_left
        ·rintro w' ⟨s0,s1,s2,s3,s4,s5,s6,s7⟩
         go_simp
         with_reducible rfl
        rotate_left
        ·simp only [Act.put,List.setIfInBounds_toArray,List.set_cons_zero,List.set_cons_succ,i64_w,i32_w]
         rfl
        refine pure_ (i:=10) (N:=some 26) (v:=?_) (a':=?_) #[true,true,true,true,true,true,true,true,true,true,true,false,false,false,false,false,false,false,false,false,false,false,false,false,false] rfl rfl (any_of HT_.out (by kernel_rfl)) (fun _ _ _ h=>h) (Or.inl ⟨by rfl,?_⟩) ?_ ?_
        rotate_left
        ·intro w'
         go_simp
         with_reducible rfl
        rotate_left
        ·simp only [Act.put,List.setIfInBounds_toArray,List.set_cons_zero,List.set_cons_succ,i64_w,i32_w]
         rfl
        refine pure_ (i:=11) (N:=some 27) (v:=?_) (a':=?_) #[true,true,true,true,true,true,true,true,true,true,true,true,false,false,false,false,false,false,false,false,false,false,false,false,false] rfl rfl (any_of HT_.out (by kernel_rfl)) (fun _ _ _ h=>h) (Or.inl ⟨by rfl,?_⟩) ?_ ?_
        rotate_left
        ·intro w'
         go_simp
         with_reducible rfl
        rotate_left
        ·simp only [Act.put,List.setIfInBounds_toArray,List.set_cons_zero,List.set_cons_succ,i64_w,i32_w]
         rfl
        refine pure_ (i:=12) (N:=some 28) (v:=undef) (a':=?_) #[true,true,true,true,true,true,true,true,true,true,true,true,true,false,false,false,false,false,false,false,false,false,false,false,false] rfl rfl (any_of HT_.out (by kernel_rfl)) (fun _ _ _ h=>h) (Or.inr ⟨by rfl,rfl⟩) ?_ ?_
        rotate_left
        ·simp only [Act.put,List.setIfInBounds_toArray,List.set_cons_zero,List.set_cons_succ,i64_w,i32_w]
         rfl
        refine pure_ (i:=13) (N:=some 29) (v:=undef) (a':=?_) #[true,true,true,true,true,true,true,true,true,true,true,true,true,true,false,false,false,false,false,false,false,false,false,false,false] rfl rfl (any_of HT_.out (by kernel_rfl)) (fun _ _ _ h=>h) (Or.inr ⟨by rfl,rfl⟩) ?_ ?_
        rotate_left
        ·simp only [Act.put,List.setIfInBounds_toArray,List.set_cons_zero,List.set_cons_succ,i64_w,i32_w]
         rfl
        refine pure_ (i:=14) (N:=some 30) (v:=undef) (a':=?_) #[true,true,true,true,true,true,true,true,true,true,true,true,true,true,true,false,false,false,false,false,false,false,false,false,false] rfl rfl (any_of HT_.out (by kernel_rfl)) (fun _ _ _ h=>h) (Or.inr ⟨by rfl,rfl⟩) ?_ ?_
        rotate_left
        ·simp only [Act.put,List.setIfInBounds_toArray,List.set_cons_zero,List.set_cons_succ,i64_w,i32_w]
         rfl
        refine pure_ (i:=15) (N:=some 31) (v:=undef) (a':=?_) #[true,true,true,true,true,true,true,true,true,true,true,true,true,true,true,true,false,false,false,false,false,false,false,false,false] rfl rfl (any_of HT_.out (by kernel_rfl)) (fun _ _ _ h=>h) (Or.inr ⟨by rfl,rfl⟩) ?_ ?_
        rotate_left
        ·simp only [Act.put,List.setIfInBounds_toArray,List.set_cons_zero,List.set_cons_succ,i64_w,i32_w]
         rfl
        refine pure_ (i:=16) (N:=some 32) (v:=undef) (a':=?_) #[true,true,true,true,true,true,true,true,true,true,true,true,true,true,true,true,true,false,false,false,false,false,false,false,false] rfl rfl (any_of HT_.out (by kernel_rfl)) (fun _ _ _ h=>h) (Or.inr ⟨by rfl,rfl⟩) ?_ ?_
        rotate_left
        ·simp only [Act.put,List.setIfInBounds_toArray,List.set_cons_zero,List.set_cons_succ,i64_w,i32_w]
         rfl
        refine pure_ (i:=17) (N:=some 33) (v:=undef) (a':=?_) #[true,true,true,true,true,true,true,true,true,true,true,true,true,true,true,true,true,true,false,false,false,false,false,false,false] rfl rfl (any_of HT_.out (by kernel_rfl)) (fun _ _ _ h=>h) (Or.inr ⟨by rfl,rfl⟩) ?_ ?_
        rotate_left
        ·simp only [Act.put,List.setIfInBounds_toArray,List.set_cons_zero,List.set_cons_succ,i64_w,i32_w]
         rfl
        refine pure_ (i:=18) (N:=some 34) (v:=undef) (a':=?_) #[true,true,true,true,true,true,true,true,true,true,true,true,true,true,true,true,true,true,true,false,false,false,false,false,false] rfl rfl (any_of HT_.out (by kernel_rfl)) (fun _ _ _ h=>h) (Or.inr ⟨by rfl,rfl⟩) ?_ ?_
        rotate_left
        ·simp only [Act.put,List.setIfInBounds_toArray,List.set_cons_zero,List.set_cons_succ,i64_w,i32_w]
         rfl
        refine pure_ (i:=19) (N:=some 35) (v:=undef) (a':=?_) #[true,true,true,true,true,true,true,true,true,true,true,true,true,true,true,true,true,true,true,true,false,false,false,false,false] rfl rfl (any_of HT_.out (by kernel_rfl)) (fun _ _ _ h=>h) (Or.inr ⟨by rfl,rfl⟩) ?_ ?_
        rotate_left
        ·simp only [Act.put,List.setIfInBounds_toArray,List.set_cons_zero,List.set_cons_succ,i64_w,i32_w]
         rfl
        refine pure_ (i:=20) (N:=some 36) (v:=undef) (a':=?_) #[true,true,true,true,true,true,true,true,true,true,true,true,true,true,true,true,true,true,true,true,true,false,false,false,false] rfl rfl (any_of HT_.out (by kernel_rfl)) (fun _ _ _ h=>h) (Or.inr ⟨by rfl,rfl⟩) ?_ ?_
        rotate_left
        ·simp only [Act.put,List.setIfInBounds_toArray,List.set_cons_zero,List.set_cons_succ,i64_w,i32_w]
         rfl
        refine pure_ (i:=21) (N:=some 37) (v:=undef) (a':=?_) #[true,true,true,true,true,true,true,true,true,true,true,true,true,true,true,true,true,true,true,true,true,true,false,false,false] rfl rfl (any_of HT_.out (by kernel_rfl)) (fun _ _ _ h=>h) (Or.inr ⟨by rfl,rfl⟩) ?_ ?_
        rotate_left
        ·simp only [Act.put,List.setIfInBounds_toArray,List.set_cons_zero,List.set_cons_succ,i64_w,i32_w]
         rfl
        refine pure_ (i:=22) (N:=some 38) (v:=undef) (a':=?_) #[true,true,true,true,true,true,true,true,true,true,true,true,true,true,true,true,true,true,true,true,true,true,true,false,false] rfl rfl (any_of HT_.out (by kernel_rfl)) (fun _ _ _ h=>h) (Or.inr ⟨by rfl,rfl⟩) ?_ ?_
        rotate_left
        ·simp only [Act.put,List.setIfInBounds_toArray,List.set_cons_zero,List.set_cons_succ,i64_w,i32_w]
         rfl
        refine pure_ (i:=23) (N:=some 39) (v:=undef) (a':=?_) #[true,true,true,true,true,true,true,true,true,true,true,true,true,true,true,true,true,true,true,true,true,true,true,true,false] rfl rfl (any_of HT_.out (by kernel_rfl)) (fun _ _ _ h=>h) (Or.inr ⟨by rfl,rfl⟩) ?_ ?_
        rotate_left
        ·simp only [Act.put,List.setIfInBounds_toArray,List.set_cons_zero,List.set_cons_succ,i64_w,i32_w]
         rfl
        refine pure_ (i:=24) (N:=some 40) (v:=?_) (a':=?_) #[true,true,true,true,true,true,true,true,true,true,true,true,true,true,true,true,true,true,true,true,true,true,true,true,true] rfl rfl (any_of HT_.out (by kernel_rfl)) (fun _ _ _ h=>h) (Or.inl ⟨by rfl,?_⟩) ?_ ?_
        rotate_left
        ·intro w'
         go_simp
         with_reducible rfl
        rotate_left
        ·simp only [Act.put,List.setIfInBounds_toArray,List.set_cons_zero,List.set_cons_succ,i64_w,i32_w]
         rfl
        refine done_ (done_of HT_.out (by kernel_rfl)) ?_
        try go_wp2
        go_ret
        exact ⟨by first|rfl|(simp [errW_none,errW_some] <;> rfl)|(simp [*,errW_none,errW_some] <;> rfl),by repeat (first|(with_reducible first|exact HB.out|apply below_alloc|apply pw_below_drewN|apply below_drew1)|exact HB.out)⟩
       rw [if_neg c7] at H
       exact absurd H (by simp)
      rw [if_neg c6] at H
      exact absurd H (by simp)
     rw [if_neg c5] at H
     exact absurd H (by simp)
    rw [if_neg c4] at H
    have c4b0:decide (x13_1<(l0.length:Int))=false:=decide_eq_false c4
    clear c4
    obtain rfl:=Option.some.inj H
    go_wp2
    go_ret
    exact ⟨by first|rfl|(simp [errW_none,errW_some] <;> rfl)|(simp [*,errW_none,errW_some] <;> rfl),by repeat (first|(with_reducible first|exact HB.out|apply below_alloc|apply pw_below_drewN|apply below_drew1)|exact HB.out)⟩
 rw [if_neg c3] at H
 have c3b0:((l0.length:Int)==(l1.length:Int))=false:=beq_eq_false_iff_ne.mpr c3
 have c3b1:((l0.length:Int) != (l1.length:Int))=true:=bne_iff_ne.mpr c3
 have c3b2:(l0.length==l1.length)=false:=by first|simpa using c3|(simp at c3 ⊢;omega)
 obtain rfl:=Option.some.inj H
 go_enter Try.func30,Try.ntmps30
 go_wp2
 go_ret
 exact ⟨by first|rfl|(simp [errW_none,errW_some] <;> rfl)|(simp [*,errW_none,errW_some] <;> rfl),by repeat (first|(with_reducible first|exact HB.out|apply below_alloc|apply pw_below_drewN|apply below_drew1)|exact HB.out)⟩
end Go.Proofs.Ytpdnabhpkdchjaa.P
namespace Go.Proofs.Ytpdnabhpkdchjaa.P
open Go.RowKit Go.Proofs.YtpdnabhpkdchjaaW.PrintWords Go.Proofs.YtpdnabhpkdchjaaW.PrintLast Go.Proofs.YtpdnabhpkdchjaaW.PrintMore
attribute [local go_sem] max2_int min2_int max_two min_two max_three min_three max_four min_four
set_option linter.unusedVariables false
set_option linter.unusedSimpArgs false
theorem eqA56 (d:Nat) (w:World) (x0 y0:Int) (x1 y1:Int) (x2 y2:Int) :
  (Op.equalIn (d+2) 56 (.agg #[.int .i64 x0,.int .i64 x1,.int .i64 x2]) (.agg #[.int .i64 y0,.int .i64 y1,.int .i64 y2])).run Try.prog w=.ok (x0==y0 && (x1==y1 && (x2==y2))) w:=by
 refine eqA_of Try.underlying56 (by kernel_rfl) ?_
 refine eqf_cons (by rfl) (by go_simp;rfl) (by go_simp;rfl) (by go_simp) ?_
 refine eqf_cons (by rfl) (by go_simp;rfl) (by go_simp;rfl) (by go_simp) ?_
 exact eqf_last (by rfl) (by go_simp;rfl) (by go_simp;rfl) (by go_simp)
end Go.Proofs.Ytpdnabhpkdchjaa.P
namespace Go.Proofs.Ytpdnabhpkdchjaa.P
open Go.RowKit Go.Proofs.YtpdnabhpkdchjaaW.PrintWords Go.Proofs.YtpdnabhpkdchjaaW.PrintLast Go.Proofs.YtpdnabhpkdchjaaW.PrintMore
set_option linter.unusedVariables false
set_option linter.unusedSimpArgs false
theorem wState_l1 (b : Bool) (ss : List S50) (dd : List Bool) (hl : dd.length ≤ 1048576) (d : Nat) : ∀ (i : Nat), i + d = dd.length → Ev (fun k => laws_wState.l1 k (dd.length : Int) i b ss dd b ss dd) true := by
  induction d with
  | zero => intro i hi; refine Ev.step1 fun k => ?_; simp only [laws_wState.l1]; rw [if_neg (by omega)]
  | succ d ih =>
    intro i hi
    refine Ev.step (fun k => ?_) (ih (i + 1) (by omega))
    simp only [laws_wState.l1, bne_self_eq_false, Bool.false_eq_true, if_false]
    rw [if_pos (by omega), if_pos (by omega), if_pos (by omega), if_pos (by omega), wrap_succ (by omega)]
theorem wState_l0 (b : Bool) (ss : List S50) (dd : List Bool) (hs : ss.length ≤ 1048576) (hl : dd.length ≤ 1048576) (d : Nat) : ∀ (i : Nat), i + d = ss.length → Ev (fun k => laws_wState.l0 k (ss.length : Int) i b ss dd b ss dd) true := by
  induction d with
  | zero =>
    intro i hi
    refine Ev.step (fun k => ?_) (wState_l1 b ss dd hl dd.length 0 (by omega))
    simp only [laws_wState.l0]; rw [if_neg (by omega)]
    rfl
  | succ d ih =>
    intro i hi
    refine Ev.step (fun k => ?_) (ih (i + 1) (by omega))
    simp only [laws_wState.l0, beq_self_eq_true, Bool.not_true, Bool.or_self, Bool.false_eq_true, if_false]
    rw [if_pos (by omega), if_pos (by omega), if_pos (by omega), if_pos (by omega), wrap_succ (by omega)]
theorem wState_ev (b : Bool) (ss : List S50) (dd : List Bool) (hs : ss.length ≤ 1048576) (hl : dd.length ≤ 1048576) : Ev (fun k => laws_wState.f k b ss dd b ss dd) true := by
  unfold laws_wState.f
  simp only [bne_self_eq_false, Bool.false_eq_true, if_false]
  refine Ev.ite_pos trivial ?_
  refine Ev.step (fun k => ?_) (wState_l0 b ss dd hs hl ss.length 0 (by omega))
  simp only [laws_wState.j0, Bool.false_eq_true, if_false]
  rfl
theorem wDone_l0 (t : List S48) (hl : t.length ≤ 1000000000) (hr : ∀ x ∈ t, x.f1.f1.length ≤ 1048576 ∧ x.f1.f2.length ≤ 1048576) (d : Nat) : ∀ (i : Nat), i + d = t.length → Ev (fun k => laws_wDone.l0 k t t (t.length : Int) i) true := by
  induction d with
  | zero => intro i hi; refine Ev.step1 fun k => ?_; simp only [laws_wDone.l0]; rw [if_neg (by omega)]
  | succ d ih =>
    intro i hi
    have hlt : i < t.length := by omega
    have e : rd_T48 t (i : Int) = t[i] := by simp [rd_T48, hlt]
    have hx := hr t[i] (List.getElem_mem hlt)
    refine Ev.step (fun k => by simp only [laws_wDone.l0, e, wrap_succ (show i < 9223372036854775807 by omega)]; rw [if_pos (by omega), if_pos (by omega), if_pos (by omega), if_pos (by omega)]) ?_
    exact Ev.ite_pos trivial (Ev.bind (wState_ev _ _ _ hx.1 hx.2) (Ev.ite_pos rfl (ih (i + 1) (by omega))))
theorem wDone_ev (t : List S48) (hl : t.length ≤ 1000000000) (hr : ∀ x ∈ t, x.f1.f1.length ≤ 1048576 ∧ x.f1.f2.length ≤ 1048576) : Ev (fun k => laws_wDone.f k t t) true := by
  unfold laws_wDone.f
  exact Ev.ite_pos rfl (wDone_l0 t hl hr t.length 0 (by omega))
section
variable {w : World} {A A1 A2 B1 B2 : Option Addr} {c c1 c2 d1 d2 : Nat}
theorem wDone_is {t : List S48} (hl : t.length ≤ 1000000000) (hr : ∀ x ∈ t, x.f1.f1.length ≤ 1048576 ∧ x.f1.f2.length ≤ 1048576) (h1 : Kd.C k48 w A t.length t) (k1 : t.length ≤ c) (h2 : Kd.C k48 w A1 t.length t) (k2 : t.length ≤ c1) :
    Calls Try.prog 30 #[.slice A t.length c, .slice A1 t.length c1] w fun e w' => e = .returned (.bool true) ∧ Below w.heap.size w w' := by
  obtain ⟨k, h⟩ := (wDone_ev t hl hr).rounds
  exact laws_wDone.calls k A c t A1 c1 t true w h1 k1 h2 k2 h
end
theorem run_small (n : Int) (l : List S88) (es : List S56) : (run n l es).length ≤ 1000000000 ∧ ∀ x ∈ run n l es, x.f1.f1.length ≤ 1048576 ∧ x.f1.f2.length ≤ 1048576 := by
  by_cases h : layoutOk n l = 0 ∧ es.length ≤ 2000
  · have hn := lay_n h.1
    rw [run, if_pos h]
    refine ⟨by rw [runTo_length]; omega, fun x hx => ?_⟩
    simp only [runTo, List.mem_map, List.mem_range] at hx
    obtain ⟨j, hj, rfl⟩ := hx
    have h1 := runStep_len n l (stAt n l es j) (rd_T56 es (j : Int))
    have h2 := stAt_len n l es j
    rw [h1.1, h1.2.1, h2.1, h2.2.1]
    omega
  · rw [run, if_neg h]
    exact ⟨by simp, fun x hx => absurd hx (by simp)⟩
end Go.Proofs.Ytpdnabhpkdchjaa.P
namespace Go.Proofs.Ytpdnabhpkdchjaa.Open
open Go.RowKit Go.Proofs.YtpdnabhpkdchjaaW.PrintWords Go.Proofs.YtpdnabhpkdchjaaW.PrintLast Go.Proofs.YtpdnabhpkdchjaaW.PrintMore
open Go.ChangeShapes Go.WideShapes Go.ChangeAt P
set_option maxRecDepth 100000
set_option linter.unusedVariables false
def kB : Kd {x : Int // 0 ≤ x ∧ x < 256} := Kd.iso (Kd.int .u8) Subtype.val
theorem wf_u8 {n : Int} (h : (Lit.int .u8 n).wf = true) : 0 ≤ n ∧ n < 256 := by
  have e1 : IntKind.u8.min = 0 := rfl
  have e2 : IntKind.u8.max = 255 := rfl
  simp [Lit.wf, e1, e2] at h
  omega
theorem oB : Opens Try.prog 5 kB := by
  intro H enc w base spare held fuel cs x h
  obtain ⟨n, rfl, _, hw⟩ := DataW.trod_int Try.underlying5 h
  exact ⟨⟨n, wf_u8 hw⟩, rfl⟩
theorem oBs : Opens Try.prog 34 (Kd.slice 5 kB) := opens_slice Try.underlying34 (by kernel_rfl) oB
theorem C_map {α β : Type} {d : Kd α} {f : β → α} {w : World} {A : Option Addr} {n : Nat} {xs : List β} (h : Kd.C (Kd.iso d f) w A n xs) : Kd.C d w A n (xs.map f) := by
  obtain ⟨h1, h2, h3⟩ := h
  refine ⟨by simpa using h1, h2, fun hn => ?_⟩
  obtain ⟨ad, e, hc⟩ := h3 hn
  refine ⟨ad, e, fun j p hp => ?_⟩
  rw [List.getElem?_map, Option.map_eq_some_iff] at hp
  obtain ⟨q, hq, rfl⟩ := hp
  exact hc j q hq
section
variable {H : Type} {enc : TypeId × Value → H} {W : World} {base b0 : Nat} {spare : Nat → Bool} {held : Bool} {v : Value} {x : DataW H} {ps : List MemPlace} {r : Reach}
theorem arg_bytes (hv : Value.okWide Try.prog W r b0 34 v) (h : DataW.Trod enc Try.prog W base spare held 34 v x ps) :
    ∃ A c l, v = .slice A l.length c ∧ Kd.C (Kd.int .u8) W A l.length l ∧ l.length ≤ c ∧ ∀ x ∈ l, 0 ≤ x ∧ x < 256 := by
  obtain ⟨A, c, l, e, h1, h2⟩ := arg_slice Try.underlying34 oBs hv h
  refine ⟨A, c, l.map Subtype.val, by rw [e, List.length_map], by rw [List.length_map]; exact C_map h1, by rw [List.length_map]; exact h2, fun x hx => ?_⟩
  obtain ⟨y, _, rfl⟩ := List.mem_map.1 hx
  exact y.2
end
end Go.Proofs.Ytpdnabhpkdchjaa.Open
namespace Go.Proofs.Ytpdnabhpkdchjaa.P
open Go.RowKit Go.Proofs.YtpdnabhpkdchjaaW.PrintWords Go.Proofs.YtpdnabhpkdchjaaW.PrintLast Go.Proofs.YtpdnabhpkdchjaaW.PrintMore
set_option linter.unusedVariables false
set_option linter.unusedSimpArgs false
theorem l1in_calls (x a b : Int) (w : World) : Calls Try.prog 87 #[.int .i64 x, .int .i64 a, .int .i64 b] w fun e w' => e = .returned (.bool (decide (a ≤ x) && decide (x ≤ b))) ∧ w = w' := by
  by_cases h : a ≤ x
  · have h1 : decide (x ≥ a) = true := decide_eq_true h
    rw [decide_eq_true h, Bool.true_and]
    go_enter Try.func87, Try.ntmps87
    go_wp2
    go_ret
    exact ⟨rfl, rfl⟩
  · have h1 : decide (x ≥ a) = false := decide_eq_false h
    rw [decide_eq_false h, Bool.false_and]
    go_enter Try.func87, Try.ntmps87
    go_wp2
    go_ret
    exact ⟨rfl, rfl⟩
theorem add_none (s b : Int) (v : Value) (w : World) (h : s < 0) : Calls Try.prog 118 #[v, .int .i64 s, .int .i64 b] w fun e w' => e = .returned (.tuple #[]) ∧ w = w' := by
  have h1 : decide (s < 0) = true := decide_eq_true h
  go_enter Try.func118, Try.ntmps118
  go_wp2
  refine bodyPost_ret (results_none rfl _ _ _) rfl ?_
  exact ⟨rfl, rfl⟩
set_option maxHeartbeats 4000000 in
set_option maxRecDepth 100000 in
theorem add_in (s : Int) (bo : Bool) (g gr n c : Nat) (v2 : Value) (l : List S50) (w : World) (base : Nat) (ok : Nat → Prop) (h0 : 0 ≤ s) (h1 : s < n)
    (hb : w.heap[g]? = some (.cells #[.bool bo, .slice (some ⟨gr, 0, none⟩) n c, v2] 46 (0, 0))) (HO : Kd.R k50 50 w base ok (.slice (some ⟨gr, 0, none⟩) n c) l) :
    Calls Try.prog 118 #[.pointer (some ⟨g, 0, none⟩), .int .i64 s, .int .i64 (1)] w fun e w' => e = .returned (.tuple #[]) ∧ Kd.R k50 50 w' base ok (.slice (some ⟨gr, 0, none⟩) n c) (l.set s.toNat (countS (rd_T50 l s) (1))) ∧ w.grownBy w' (some gr) := by
  obtain ⟨x0, x1, x2, x3, x4, f0, f1, f2, f3, f4⟩ := sec_at HO s h0 h1
  have hc1 : w.cell? ⟨g, 1, none⟩ = some (.slice (some ⟨gr, 0, none⟩) n c) := (blk_cell hb 1).trans rfl
  have hs : decide (s < 0) = false := decide_eq_false (by omega)
  have H0 := Aside0.mk h0
  have H1 := Aside0.mk h1
  have HO2 := Aside0.mk HO
  have hp0 := eq_true h0
  have hp1 := eq_true h1
  have ST := Aside0.mk (SecSt.start HO H0.out H1.out)
  generalize hx : rd_T50 l s = x at x0 x1 x2 x3 x4 ST ⊢
  have HX := hx
  clear hx hb h0 h1 HO HO2 HX
  by_cases q1 : -1000000 ≤ wrap64 (x.f1 + 1)
  · skip
    have Q1 := Aside0.mk q1
    clear q1
    by_cases q2 : wrap64 (x.f1 + 1) ≤ 1000000
    · skip
      have Q2 := Aside0.mk q2
      clear q2
      by_cases q3 : wrap64 (x.f1 + 1) < 0
      · skip
        have f3 : decide (wrap64 (x.f1 + 1) < 0) = true := decide_eq_true q3
        have Q3 := Aside0.mk q3
        clear q3
        rcases Bool.eq_false_or_eq_true x.f3 with q4 | q4
        · skip
          have HC := Aside0.mk (show (decide (-1000000 ≤ wrap64 (x.f1 + 1)) && decide (wrap64 (x.f1 + 1) ≤ 1000000)) = true from by have h1 := Q1.out; have h2 := Q2.out; rw [decide_eq_true h1, decide_eq_true h2]; rfl)
          go_enter Try.func118, Try.ntmps118
          go_wp2_with (go_at_call 87; refine (l1in_calls _ _ _ _).mono ?_; rintro e w' ⟨rfl, rfl⟩; rw [HC.out])
          go_wp2
          go_end0
          exact ⟨rfl, SecSt.eq (((ST.out.put1 H0.out H1.out rfl).put4 H0.out H1.out rfl).put2 H0.out H1.out rfl) (countS_eq (cnt_in (by have := Q1.out; omega) (by have := Q2.out; omega)) (by rw [decide_eq_true (by have := Q3.out; omega)]; simp) (by simp))⟩
        · have Q4 := Aside0.mk q4
          have HC := Aside0.mk (show (decide (-1000000 ≤ wrap64 (x.f1 + 1)) && decide (wrap64 (x.f1 + 1) ≤ 1000000)) = true from by have h1 := Q1.out; have h2 := Q2.out; rw [decide_eq_true h1, decide_eq_true h2]; rfl)
          go_enter Try.func118, Try.ntmps118
          go_wp2_with (go_at_call 87; refine (l1in_calls _ _ _ _).mono ?_; rintro e w' ⟨rfl, rfl⟩; rw [HC.out])
          go_wp2
          go_end0
          exact ⟨rfl, SecSt.eq (((ST.out.put1 H0.out H1.out rfl).put4 H0.out H1.out rfl).put2 H0.out H1.out rfl) (countS_eq (cnt_in (by have := Q1.out; omega) (by have := Q2.out; omega)) (by rw [decide_eq_true (by have := Q3.out; omega)]; simp) (by rw [Q4.out]; rfl))⟩
      · skip
        have f3 : decide (wrap64 (x.f1 + 1) < 0) = false := decide_eq_false q3
        have Q3 := Aside0.mk q3
        clear q3
        rcases Bool.eq_false_or_eq_true x.f3 with q4 | q4
        · skip
          have HC := Aside0.mk (show (decide (-1000000 ≤ wrap64 (x.f1 + 1)) && decide (wrap64 (x.f1 + 1) ≤ 1000000)) = true from by have h1 := Q1.out; have h2 := Q2.out; rw [decide_eq_true h1, decide_eq_true h2]; rfl)
          go_enter Try.func118, Try.ntmps118
          go_wp2_with (go_at_call 87; refine (l1in_calls _ _ _ _).mono ?_; rintro e w' ⟨rfl, rfl⟩; rw [HC.out])
          go_wp2
          go_end0
          exact ⟨rfl, SecSt.eq ((ST.out.put1 H0.out H1.out rfl).put4 H0.out H1.out rfl) (countS_eq (cnt_in (by have := Q1.out; omega) (by have := Q2.out; omega)) (by rw [decide_eq_false (by have := Q3.out; omega)]; simp) (by simp))⟩
        · have Q4 := Aside0.mk q4
          have HC := Aside0.mk (show (decide (-1000000 ≤ wrap64 (x.f1 + 1)) && decide (wrap64 (x.f1 + 1) ≤ 1000000)) = true from by have h1 := Q1.out; have h2 := Q2.out; rw [decide_eq_true h1, decide_eq_true h2]; rfl)
          go_enter Try.func118, Try.ntmps118
          go_wp2_with (go_at_call 87; refine (l1in_calls _ _ _ _).mono ?_; rintro e w' ⟨rfl, rfl⟩; rw [HC.out])
          go_wp2
          go_end0
          exact ⟨rfl, SecSt.eq ((ST.out.put1 H0.out H1.out rfl).put4 H0.out H1.out rfl) (countS_eq (cnt_in (by have := Q1.out; omega) (by have := Q2.out; omega)) (by rw [decide_eq_false (by have := Q3.out; omega)]; simp) (by rw [Q4.out]; rfl))⟩
    · skip
      have Q2 := Aside0.mk q2
      clear q2
      by_cases q3 : x.f1 < 0
      · skip
        have f3 : decide (x.f1 < 0) = true := decide_eq_true q3
        have Q3 := Aside0.mk q3
        clear q3
        rcases Bool.eq_false_or_eq_true x.f3 with q4 | q4
        · skip
          have HC := Aside0.mk (show (decide (-1000000 ≤ wrap64 (x.f1 + 1)) && decide (wrap64 (x.f1 + 1) ≤ 1000000)) = false from by have h2 := Q2.out; rw [decide_eq_false h2, Bool.and_false])
          go_enter Try.func118, Try.ntmps118
          go_wp2_with (go_at_call 87; refine (l1in_calls _ _ _ _).mono ?_; rintro e w' ⟨rfl, rfl⟩; rw [HC.out])
          go_wp2
          go_end0
          exact ⟨rfl, SecSt.eq ((ST.out.put4 H0.out H1.out rfl).put2 H0.out H1.out rfl) (countS_eq (cnt_hi (by have := Q2.out; omega)) (by rw [decide_eq_true (by have := Q3.out; omega)]; simp) (by simp))⟩
        · have Q4 := Aside0.mk q4
          have HC := Aside0.mk (show (decide (-1000000 ≤ wrap64 (x.f1 + 1)) && decide (wrap64 (x.f1 + 1) ≤ 1000000)) = false from by have h2 := Q2.out; rw [decide_eq_false h2, Bool.and_false])
          go_enter Try.func118, Try.ntmps118
          go_wp2_with (go_at_call 87; refine (l1in_calls _ _ _ _).mono ?_; rintro e w' ⟨rfl, rfl⟩; rw [HC.out])
          go_wp2
          go_end0
          exact ⟨rfl, SecSt.eq ((ST.out.put4 H0.out H1.out rfl).put2 H0.out H1.out rfl) (countS_eq (cnt_hi (by have := Q2.out; omega)) (by rw [decide_eq_true (by have := Q3.out; omega)]; simp) (by rw [Q4.out]; rfl))⟩
      · skip
        have f3 : decide (x.f1 < 0) = false := decide_eq_false q3
        have Q3 := Aside0.mk q3
        clear q3
        rcases Bool.eq_false_or_eq_true x.f3 with q4 | q4
        · skip
          have HC := Aside0.mk (show (decide (-1000000 ≤ wrap64 (x.f1 + 1)) && decide (wrap64 (x.f1 + 1) ≤ 1000000)) = false from by have h2 := Q2.out; rw [decide_eq_false h2, Bool.and_false])
          go_enter Try.func118, Try.ntmps118
          go_wp2_with (go_at_call 87; refine (l1in_calls _ _ _ _).mono ?_; rintro e w' ⟨rfl, rfl⟩; rw [HC.out])
          go_wp2
          go_end0
          exact ⟨rfl, SecSt.eq (ST.out.put4 H0.out H1.out rfl) (countS_eq (cnt_hi (by have := Q2.out; omega)) (by rw [decide_eq_false (by have := Q3.out; omega)]; simp) (by simp))⟩
        · have Q4 := Aside0.mk q4
          have HC := Aside0.mk (show (decide (-1000000 ≤ wrap64 (x.f1 + 1)) && decide (wrap64 (x.f1 + 1) ≤ 1000000)) = false from by have h2 := Q2.out; rw [decide_eq_false h2, Bool.and_false])
          go_enter Try.func118, Try.ntmps118
          go_wp2_with (go_at_call 87; refine (l1in_calls _ _ _ _).mono ?_; rintro e w' ⟨rfl, rfl⟩; rw [HC.out])
          go_wp2
          go_end0
          exact ⟨rfl, SecSt.eq (ST.out.put4 H0.out H1.out rfl) (countS_eq (cnt_hi (by have := Q2.out; omega)) (by rw [decide_eq_false (by have := Q3.out; omega)]; simp) (by rw [Q4.out]; rfl))⟩
  · skip
    have Q1 := Aside0.mk q1
    clear q1
    by_cases q3 : x.f1 < 0
    · skip
      have f3 : decide (x.f1 < 0) = true := decide_eq_true q3
      have Q3 := Aside0.mk q3
      clear q3
      rcases Bool.eq_false_or_eq_true x.f3 with q4 | q4
      · skip
        have HC := Aside0.mk (show (decide (-1000000 ≤ wrap64 (x.f1 + 1)) && decide (wrap64 (x.f1 + 1) ≤ 1000000)) = false from by have h1 := Q1.out; rw [decide_eq_false h1, Bool.false_and])
        go_enter Try.func118, Try.ntmps118
        go_wp2_with (go_at_call 87; refine (l1in_calls _ _ _ _).mono ?_; rintro e w' ⟨rfl, rfl⟩; rw [HC.out])
        go_wp2
        go_end0
        exact ⟨rfl, SecSt.eq ((ST.out.put4 H0.out H1.out rfl).put2 H0.out H1.out rfl) (countS_eq (cnt_lo (by have := Q1.out; omega)) (by rw [decide_eq_true (by have := Q3.out; omega)]; simp) (by simp))⟩
      · have Q4 := Aside0.mk q4
        have HC := Aside0.mk (show (decide (-1000000 ≤ wrap64 (x.f1 + 1)) && decide (wrap64 (x.f1 + 1) ≤ 1000000)) = false from by have h1 := Q1.out; rw [decide_eq_false h1, Bool.false_and])
        go_enter Try.func118, Try.ntmps118
        go_wp2_with (go_at_call 87; refine (l1in_calls _ _ _ _).mono ?_; rintro e w' ⟨rfl, rfl⟩; rw [HC.out])
        go_wp2
        go_end0
        exact ⟨rfl, SecSt.eq ((ST.out.put4 H0.out H1.out rfl).put2 H0.out H1.out rfl) (countS_eq (cnt_lo (by have := Q1.out; omega)) (by rw [decide_eq_true (by have := Q3.out; omega)]; simp) (by rw [Q4.out]; rfl))⟩
    · skip
      have f3 : decide (x.f1 < 0) = false := decide_eq_false q3
      have Q3 := Aside0.mk q3
      clear q3
      rcases Bool.eq_false_or_eq_true x.f3 with q4 | q4
      · skip
        have HC := Aside0.mk (show (decide (-1000000 ≤ wrap64 (x.f1 + 1)) && decide (wrap64 (x.f1 + 1) ≤ 1000000)) = false from by have h1 := Q1.out; rw [decide_eq_false h1, Bool.false_and])
        go_enter Try.func118, Try.ntmps118
        go_wp2_with (go_at_call 87; refine (l1in_calls _ _ _ _).mono ?_; rintro e w' ⟨rfl, rfl⟩; rw [HC.out])
        go_wp2
        go_end0
        exact ⟨rfl, SecSt.eq (ST.out.put4 H0.out H1.out rfl) (countS_eq (cnt_lo (by have := Q1.out; omega)) (by rw [decide_eq_false (by have := Q3.out; omega)]; simp) (by simp))⟩
      · have Q4 := Aside0.mk q4
        have HC := Aside0.mk (show (decide (-1000000 ≤ wrap64 (x.f1 + 1)) && decide (wrap64 (x.f1 + 1) ≤ 1000000)) = false from by have h1 := Q1.out; rw [decide_eq_false h1, Bool.false_and])
        go_enter Try.func118, Try.ntmps118
        go_wp2_with (go_at_call 87; refine (l1in_calls _ _ _ _).mono ?_; rintro e w' ⟨rfl, rfl⟩; rw [HC.out])
        go_wp2
        go_end0
        exact ⟨rfl, SecSt.eq (ST.out.put4 H0.out H1.out rfl) (countS_eq (cnt_lo (by have := Q1.out; omega)) (by rw [decide_eq_false (by have := Q3.out; omega)]; simp) (by rw [Q4.out]; rfl))⟩
set_option maxHeartbeats 4000000 in
set_option maxRecDepth 100000 in
theorem add_out (s : Int) (bo : Bool) (g gr n c : Nat) (v2 : Value) (l : List S50) (w : World) (base : Nat) (ok : Nat → Prop) (h0 : 0 ≤ s) (h1 : s < n)
    (hb : w.heap[g]? = some (.cells #[.bool bo, .slice (some ⟨gr, 0, none⟩) n c, v2] 46 (0, 0))) (HO : Kd.R k50 50 w base ok (.slice (some ⟨gr, 0, none⟩) n c) l) :
    Calls Try.prog 118 #[.pointer (some ⟨g, 0, none⟩), .int .i64 s, .int .i64 (-1)] w fun e w' => e = .returned (.tuple #[]) ∧ Kd.R k50 50 w' base ok (.slice (some ⟨gr, 0, none⟩) n c) (l.set s.toNat (countS (rd_T50 l s) (-1))) ∧ w.grownBy w' (some gr) := by
  obtain ⟨x0, x1, x2, x3, x4, f0, f1, f2, f3, f4⟩ := sec_at HO s h0 h1
  have hc1 : w.cell? ⟨g, 1, none⟩ = some (.slice (some ⟨gr, 0, none⟩) n c) := (blk_cell hb 1).trans rfl
  have hs : decide (s < 0) = false := decide_eq_false (by omega)
  have H0 := Aside0.mk h0
  have H1 := Aside0.mk h1
  have HO2 := Aside0.mk HO
  have hp0 := eq_true h0
  have hp1 := eq_true h1
  have ST := Aside0.mk (SecSt.start HO H0.out H1.out)
  generalize hx : rd_T50 l s = x at x0 x1 x2 x3 x4 ST ⊢
  have HX := hx
  clear hx hb h0 h1 HO HO2 HX
  by_cases q1 : -1000000 ≤ wrap64 (x.f1 + -1)
  · skip
    have Q1 := Aside0.mk q1
    clear q1
    by_cases q2 : wrap64 (x.f1 + -1) ≤ 1000000
    · skip
      have Q2 := Aside0.mk q2
      clear q2
      by_cases q3 : wrap64 (x.f1 + -1) < 0
      · skip
        have f3 : decide (wrap64 (x.f1 + -1) < 0) = true := decide_eq_true q3
        have Q3 := Aside0.mk q3
        clear q3
        rcases Bool.eq_false_or_eq_true x.f3 with q4 | q4
        · skip
          by_cases q5 : wrap64 (x.f1 + -1) = 0
          · skip
            have f5 : (wrap64 (x.f1 + -1) == 0) = true := beq_iff_eq.mpr q5
            have Q5 := Aside0.mk q5
            clear q5
            exact absurd Q5.out (by have := Q3.out; omega)
          · skip
            have f5 : (wrap64 (x.f1 + -1) == 0) = false := beq_eq_false_iff_ne.mpr q5
            have Q5 := Aside0.mk q5
            clear q5
            have HC := Aside0.mk (show (decide (-1000000 ≤ wrap64 (x.f1 + -1)) && decide (wrap64 (x.f1 + -1) ≤ 1000000)) = true from by have h1 := Q1.out; have h2 := Q2.out; rw [decide_eq_true h1, decide_eq_true h2]; rfl)
            go_enter Try.func118, Try.ntmps118
            go_wp2_with (go_at_call 87; refine (l1in_calls _ _ _ _).mono ?_; rintro e w' ⟨rfl, rfl⟩; rw [HC.out])
            go_wp2
            go_end0
            exact ⟨rfl, SecSt.eq (((ST.out.put1 H0.out H1.out rfl).put4 H0.out H1.out rfl).put2 H0.out H1.out rfl) (countS_eq (cnt_in (by have := Q1.out; omega) (by have := Q2.out; omega)) (by rw [decide_eq_true (by have := Q3.out; omega)]; simp) (by rw [decide_eq_false (by have := Q5.out; omega)]; simp))⟩
        · have Q4 := Aside0.mk q4
          have HC := Aside0.mk (show (decide (-1000000 ≤ wrap64 (x.f1 + -1)) && decide (wrap64 (x.f1 + -1) ≤ 1000000)) = true from by have h1 := Q1.out; have h2 := Q2.out; rw [decide_eq_true h1, decide_eq_true h2]; rfl)
          go_enter Try.func118, Try.ntmps118
          go_wp2_with (go_at_call 87; refine (l1in_calls _ _ _ _).mono ?_; rintro e w' ⟨rfl, rfl⟩; rw [HC.out])
          go_wp2
          go_end0
          exact ⟨rfl, SecSt.eq (((ST.out.put1 H0.out H1.out rfl).put4 H0.out H1.out rfl).put2 H0.out H1.out rfl) (countS_eq (cnt_in (by have := Q1.out; omega) (by have := Q2.out; omega)) (by rw [decide_eq_true (by have := Q3.out; omega)]; simp) (by rw [Q4.out]; rfl))⟩
      · skip
        have f3 : decide (wrap64 (x.f1 + -1) < 0) = false := decide_eq_false q3
        have Q3 := Aside0.mk q3
        clear q3
        rcases Bool.eq_false_or_eq_true x.f3 with q4 | q4
        · skip
          by_cases q5 : wrap64 (x.f1 + -1) = 0
          · skip
            have f5 : (wrap64 (x.f1 + -1) == 0) = true := beq_iff_eq.mpr q5
            have Q5 := Aside0.mk q5
            clear q5
            have HC := Aside0.mk (show (decide (-1000000 ≤ wrap64 (x.f1 + -1)) && decide (wrap64 (x.f1 + -1) ≤ 1000000)) = true from by have h1 := Q1.out; have h2 := Q2.out; rw [decide_eq_true h1, decide_eq_true h2]; rfl)
            go_enter Try.func118, Try.ntmps118
            go_wp2_with (go_at_call 87; refine (l1in_calls _ _ _ _).mono ?_; rintro e w' ⟨rfl, rfl⟩; rw [HC.out])
            go_wp2
            go_end0
            exact ⟨rfl, SecSt.eq (((ST.out.put1 H0.out H1.out rfl).put4 H0.out H1.out rfl).put3 H0.out H1.out rfl) (countS_eq (cnt_in (by have := Q1.out; omega) (by have := Q2.out; omega)) (by rw [decide_eq_false (by have := Q3.out; omega)]; simp) (by rw [decide_eq_true (by have := Q5.out; omega)]; simp))⟩
          · skip
            have f5 : (wrap64 (x.f1 + -1) == 0) = false := beq_eq_false_iff_ne.mpr q5
            have Q5 := Aside0.mk q5
            clear q5
            have HC := Aside0.mk (show (decide (-1000000 ≤ wrap64 (x.f1 + -1)) && decide (wrap64 (x.f1 + -1) ≤ 1000000)) = true from by have h1 := Q1.out; have h2 := Q2.out; rw [decide_eq_true h1, decide_eq_true h2]; rfl)
            go_enter Try.func118, Try.ntmps118
            go_wp2_with (go_at_call 87; refine (l1in_calls _ _ _ _).mono ?_; rintro e w' ⟨rfl, rfl⟩; rw [HC.out])
            go_wp2
            go_end0
            exact ⟨rfl, SecSt.eq ((ST.out.put1 H0.out H1.out rfl).put4 H0.out H1.out rfl) (countS_eq (cnt_in (by have := Q1.out; omega) (by have := Q2.out; omega)) (by rw [decide_eq_false (by have := Q3.out; omega)]; simp) (by rw [decide_eq_false (by have := Q5.out; omega)]; simp))⟩
        · have Q4 := Aside0.mk q4
          have HC := Aside0.mk (show (decide (-1000000 ≤ wrap64 (x.f1 + -1)) && decide (wrap64 (x.f1 + -1) ≤ 1000000)) = true from by have h1 := Q1.out; have h2 := Q2.out; rw [decide_eq_true h1, decide_eq_true h2]; rfl)
          go_enter Try.func118, Try.ntmps118
          go_wp2_with (go_at_call 87; refine (l1in_calls _ _ _ _).mono ?_; rintro e w' ⟨rfl, rfl⟩; rw [HC.out])
          go_wp2
          go_end0
          exact ⟨rfl, SecSt.eq ((ST.out.put1 H0.out H1.out rfl).put4 H0.out H1.out rfl) (countS_eq (cnt_in (by have := Q1.out; omega) (by have := Q2.out; omega)) (by rw [decide_eq_false (by have := Q3.out; omega)]; simp) (by rw [Q4.out]; rfl))⟩
    · skip
      have Q2 := Aside0.mk q2
      clear q2
      by_cases q3 : x.f1 < 0
      · skip
        have f3 : decide (x.f1 < 0) = true := decide_eq_true q3
        have Q3 := Aside0.mk q3
        clear q3
        rcases Bool.eq_false_or_eq_true x.f3 with q4 | q4
        · skip
          by_cases q5 : x.f1 = 0
          · skip
            have f5 : (x.f1 == 0) = true := beq_iff_eq.mpr q5
            have Q5 := Aside0.mk q5
            clear q5
            exact absurd Q5.out (by have := Q3.out; omega)
          · skip
            have f5 : (x.f1 == 0) = false := beq_eq_false_iff_ne.mpr q5
            have Q5 := Aside0.mk q5
            clear q5
            have HC := Aside0.mk (show (decide (-1000000 ≤ wrap64 (x.f1 + -1)) && decide (wrap64 (x.f1 + -1) ≤ 1000000)) = false from by have h2 := Q2.out; rw [decide_eq_false h2, Bool.and_false])
            go_enter Try.func118, Try.ntmps118
            go_wp2_with (go_at_call 87; refine (l1in_calls _ _ _ _).mono ?_; rintro e w' ⟨rfl, rfl⟩; rw [HC.out])
            go_wp2
            go_end0
            exact ⟨rfl, SecSt.eq ((ST.out.put4 H0.out H1.out rfl).put2 H0.out H1.out rfl) (countS_eq (cnt_hi (by have := Q2.out; omega)) (by rw [decide_eq_true (by have := Q3.out; omega)]; simp) (by rw [decide_eq_false (by have := Q5.out; omega)]; simp))⟩
        · have Q4 := Aside0.mk q4
          have HC := Aside0.mk (show (decide (-1000000 ≤ wrap64 (x.f1 + -1)) && decide (wrap64 (x.f1 + -1) ≤ 1000000)) = false from by have h2 := Q2.out; rw [decide_eq_false h2, Bool.and_false])
          go_enter Try.func118, Try.ntmps118
          go_wp2_with (go_at_call 87; refine (l1in_calls _ _ _ _).mono ?_; rintro e w' ⟨rfl, rfl⟩; rw [HC.out])
          go_wp2
          go_end0
          exact ⟨rfl, SecSt.eq ((ST.out.put4 H0.out H1.out rfl).put2 H0.out H1.out rfl) (countS_eq (cnt_hi (by have := Q2.out; omega)) (by rw [decide_eq_true (by have := Q3.out; omega)]; simp) (by rw [Q4.out]; rfl))⟩
      · skip
        have f3 : decide (x.f1 < 0) = false := decide_eq_false q3
        have Q3 := Aside0.mk q3
        clear q3
        rcases Bool.eq_false_or_eq_true x.f3 with q4 | q4
        · skip
          by_cases q5 : x.f1 = 0
          · skip
            have f5 : (x.f1 == 0) = true := beq_iff_eq.mpr q5
            have Q5 := Aside0.mk q5
            clear q5
            have HC := Aside0.mk (show (decide (-1000000 ≤ wrap64 (x.f1 + -1)) && decide (wrap64 (x.f1 + -1) ≤ 1000000)) = false from by have h2 := Q2.out; rw [decide_eq_false h2, Bool.and_false])
            go_enter Try.func118, Try.ntmps118
            go_wp2_with (go_at_call 87; refine (l1in_calls _ _ _ _).mono ?_; rintro e w' ⟨rfl, rfl⟩; rw [HC.out])
            go_wp2
            go_end0
            exact ⟨rfl, SecSt.eq ((ST.out.put4 H0.out H1.out rfl).put3 H0.out H1.out rfl) (countS_eq (cnt_hi (by have := Q2.out; omega)) (by rw [decide_eq_false (by have := Q3.out; omega)]; simp) (by rw [decide_eq_true (by have := Q5.out; omega)]; simp))⟩
          · skip
            have f5 : (x.f1 == 0) = false := beq_eq_false_iff_ne.mpr q5
            have Q5 := Aside0.mk q5
            clear q5
            have HC := Aside0.mk (show (decide (-1000000 ≤ wrap64 (x.f1 + -1)) && decide (wrap64 (x.f1 + -1) ≤ 1000000)) = false from by have h2 := Q2.out; rw [decide_eq_false h2, Bool.and_false])
            go_enter Try.func118, Try.ntmps118
            go_wp2_with (go_at_call 87; refine (l1in_calls _ _ _ _).mono ?_; rintro e w' ⟨rfl, rfl⟩; rw [HC.out])
            go_wp2
            go_end0
            exact ⟨rfl, SecSt.eq (ST.out.put4 H0.out H1.out rfl) (countS_eq (cnt_hi (by have := Q2.out; omega)) (by rw [decide_eq_false (by have := Q3.out; omega)]; simp) (by rw [decide_eq_false (by have := Q5.out; omega)]; simp))⟩
        · have Q4 := Aside0.mk q4
          have HC := Aside0.mk (show (decide (-1000000 ≤ wrap64 (x.f1 + -1)) && decide (wrap64 (x.f1 + -1) ≤ 1000000)) = false from by have h2 := Q2.out; rw [decide_eq_false h2, Bool.and_false])
          go_enter Try.func118, Try.ntmps118
          go_wp2_with (go_at_call 87; refine (l1in_calls _ _ _ _).mono ?_; rintro e w' ⟨rfl, rfl⟩; rw [HC.out])
          go_wp2
          go_end0
          exact ⟨rfl, SecSt.eq (ST.out.put4 H0.out H1.out rfl) (countS_eq (cnt_hi (by have := Q2.out; omega)) (by rw [decide_eq_false (by have := Q3.out; omega)]; simp) (by rw [Q4.out]; rfl))⟩
  · skip
    have Q1 := Aside0.mk q1
    clear q1
    by_cases q3 : x.f1 < 0
    · skip
      have f3 : decide (x.f1 < 0) = true := decide_eq_true q3
      have Q3 := Aside0.mk q3
      clear q3
      rcases Bool.eq_false_or_eq_true x.f3 with q4 | q4
      · skip
        by_cases q5 : x.f1 = 0
        · skip
          have f5 : (x.f1 == 0) = true := beq_iff_eq.mpr q5
          have Q5 := Aside0.mk q5
          clear q5
          exact absurd Q5.out (by have := Q3.out; omega)
        · skip
          have f5 : (x.f1 == 0) = false := beq_eq_false_iff_ne.mpr q5
          have Q5 := Aside0.mk q5
          clear q5
          have HC := Aside0.mk (show (decide (-1000000 ≤ wrap64 (x.f1 + -1)) && decide (wrap64 (x.f1 + -1) ≤ 1000000)) = false from by have h1 := Q1.out; rw [decide_eq_false h1, Bool.false_and])
          go_enter Try.func118, Try.ntmps118
          go_wp2_with (go_at_call 87; refine (l1in_calls _ _ _ _).mono ?_; rintro e w' ⟨rfl, rfl⟩; rw [HC.out])
          go_wp2
          go_end0
          exact ⟨rfl, SecSt.eq ((ST.out.put4 H0.out H1.out rfl).put2 H0.out H1.out rfl) (countS_eq (cnt_lo (by have := Q1.out; omega)) (by rw [decide_eq_true (by have := Q3.out; omega)]; simp) (by rw [decide_eq_false (by have := Q5.out; omega)]; simp))⟩
      · have Q4 := Aside0.mk q4
        have HC := Aside0.mk (show (decide (-1000000 ≤ wrap64 (x.f1 + -1)) && decide (wrap64 (x.f1 + -1) ≤ 1000000)) = false from by have h1 := Q1.out; rw [decide_eq_false h1, Bool.false_and])
        go_enter Try.func118, Try.ntmps118
        go_wp2_with (go_at_call 87; refine (l1in_calls _ _ _ _).mono ?_; rintro e w' ⟨rfl, rfl⟩; rw [HC.out])
        go_wp2
        go_end0
        exact ⟨rfl, SecSt.eq ((ST.out.put4 H0.out H1.out rfl).put2 H0.out H1.out rfl) (countS_eq (cnt_lo (by have := Q1.out; omega)) (by rw [decide_eq_true (by have := Q3.out; omega)]; simp) (by rw [Q4.out]; rfl))⟩
    · skip
      have f3 : decide (x.f1 < 0) = false := decide_eq_false q3
      have Q3 := Aside0.mk q3
      clear q3
      rcases Bool.eq_false_or_eq_true x.f3 with q4 | q4
      · skip
        by_cases q5 : x.f1 = 0
        · skip
          have f5 : (x.f1 == 0) = true := beq_iff_eq.mpr q5
          have Q5 := Aside0.mk q5
          clear q5
          have HC := Aside0.mk (show (decide (-1000000 ≤ wrap64 (x.f1 + -1)) && decide (wrap64 (x.f1 + -1) ≤ 1000000)) = false from by have h1 := Q1.out; rw [decide_eq_false h1, Bool.false_and])
          go_enter Try.func118, Try.ntmps118
          go_wp2_with (go_at_call 87; refine (l1in_calls _ _ _ _).mono ?_; rintro e w' ⟨rfl, rfl⟩; rw [HC.out])
          go_wp2
          go_end0
          exact ⟨rfl, SecSt.eq ((ST.out.put4 H0.out H1.out rfl).put3 H0.out H1.out rfl) (countS_eq (cnt_lo (by have := Q1.out; omega)) (by rw [decide_eq_false (by have := Q3.out; omega)]; simp) (by rw [decide_eq_true (by have := Q5.out; omega)]; simp))⟩
        · skip
          have f5 : (x.f1 == 0) = false := beq_eq_false_iff_ne.mpr q5
          have Q5 := Aside0.mk q5
          clear q5
          have HC := Aside0.mk (show (decide (-1000000 ≤ wrap64 (x.f1 + -1)) && decide (wrap64 (x.f1 + -1) ≤ 1000000)) = false from by have h1 := Q1.out; rw [decide_eq_false h1, Bool.false_and])
          go_enter Try.func118, Try.ntmps118
          go_wp2_with (go_at_call 87; refine (l1in_calls _ _ _ _).mono ?_; rintro e w' ⟨rfl, rfl⟩; rw [HC.out])
          go_wp2
          go_end0
          exact ⟨rfl, SecSt.eq (ST.out.put4 H0.out H1.out rfl) (countS_eq (cnt_lo (by have := Q1.out; omega)) (by rw [decide_eq_false (by have := Q3.out; omega)]; simp) (by rw [decide_eq_false (by have := Q5.out; omega)]; simp))⟩
      · have Q4 := Aside0.mk q4
        have HC := Aside0.mk (show (decide (-1000000 ≤ wrap64 (x.f1 + -1)) && decide (wrap64 (x.f1 + -1) ≤ 1000000)) = false from by have h1 := Q1.out; rw [decide_eq_false h1, Bool.false_and])
        go_enter Try.func118, Try.ntmps118
        go_wp2_with (go_at_call 87; refine (l1in_calls _ _ _ _).mono ?_; rintro e w' ⟨rfl, rfl⟩; rw [HC.out])
        go_wp2
        go_end0
        exact ⟨rfl, SecSt.eq (ST.out.put4 H0.out H1.out rfl) (countS_eq (cnt_lo (by have := Q1.out; omega)) (by rw [decide_eq_false (by have := Q3.out; omega)]; simp) (by rw [Q4.out]; rfl))⟩
end Go.Proofs.Ytpdnabhpkdchjaa.P
namespace Go.Proofs.Ytpdnabhpkdchjaa.P
open Go.RowKit Go.Proofs.YtpdnabhpkdchjaaW.PrintWords Go.Proofs.YtpdnabhpkdchjaaW.PrintLast Go.Proofs.YtpdnabhpkdchjaaW.PrintMore
set_option linter.unusedVariables false
structure StSt (w0 w : World) (gl gz : Nat) (lv zv : List Value) : Prop where
  hB : Below w0.heap.size w0 w
  hl : w.heap[gl]? = some (.cells lv.toArray 30 (0, 0))
  hz : w.heap[gz]? = some (.cells zv.toArray 46 (0, 0))
structure SeSt (w0 w : World) (gl gz gx : Nat) (lv zv xv : List Value) : Prop where
  S : StSt w0 w gl gz lv zv
  hx : w.heap[gx]? = some (.cells xv.toArray 50 (0, 0))
section
variable {w0 w w' : World} {gl gz gx : Nat} {lv zv xv : List Value}
theorem StSt.up (h : StSt w0 w gl gz lv zv) (hb : Below w.heap.size w w') : StSt w0 w' gl gz lv zv := ⟨below_step h.hB hb, blk_below h.hl hb, blk_below h.hz hb⟩
theorem SeSt.up (h : SeSt w0 w gl gz gx lv zv xv) (hb : Below w.heap.size w w') : SeSt w0 w' gl gz gx lv zv xv := ⟨h.S.up hb, blk_below h.hx hb⟩
theorem StSt.fill {y0 y1 y2 y3 y4 x0 x1 x2 x3 x4 : Value} (h : StSt w0 w gl gz lv zv) (hx : w'.heap[gx]? = some (.cells #[x0, x1, x2, x3, x4] 50 (0, 0))) (hb : Below w.heap.size w w') (hg : w.heap.size ≤ gx) :
    SeSt w0 (((((w'.setCell ⟨gx, 0, none⟩ y0).setCell ⟨gx, 1, none⟩ y1).setCell ⟨gx, 2, none⟩ y2).setCell ⟨gx, 3, none⟩ y3).setCell ⟨gx, 4, none⟩ y4) gl gz gx lv zv [y0, y1, y2, y3, y4] := by
  have h2 := below_set (j := 4) (v := y4) (below_set (j := 3) (v := y3) (below_set (j := 2) (v := y2) (below_set (j := 1) (v := y1) (below_set (j := 0) (v := y0) hb hg) hg) hg) hg) hg
  exact ⟨h.up h2, blk_put (blk_put (blk_put (blk_put (blk_put hx 0 y0 rfl) 1 y1 rfl) 2 y2 rfl) 3 y3 rfl) 4 y4 rfl⟩
end
theorem stateOk_tests (n : Int) (l : List S88) (b : Bool) (ss : List S50) (dd : List Bool) :
    (¬ ((layoutOk n l != 0) = false ∧ b = true ∧ ((ss.length : Int) != n) = false ∧ ((dd.length : Int) != (l.length : Int)) = false) → stateOk n l b ss dd = false) ∧
    (layoutOk n l = 0 → (ss.length : Int) = n → dd.length = l.length → b = true → stateOk n l b ss dd = secsFrom l dd ss ss.length 0) := by
  constructor
  · intro h
    cases hs : stateOk n l b ss dd with
    | false => rfl
    | true =>
      obtain ⟨h1, h2, h3, h4, _⟩ := stateOk_of hs
      exact absurd ⟨by simp [h1], h2, by simp [h3], by simp; omega⟩ h
  · intro h1 h2 h3 h4
    simp [stateOk, h1, h2, h3, h4]
theorem secOk_parts (l : List S88) (dd : List Bool) (s : Int) (x : S50) :
    ((decide (x.f1 < -1000000) || decide (1000000 < x.f1) || decide (x.f4 < -1) || decide (1 < x.f4) || (x.f0 != toldC l dd s x)) = true → secOk l dd s x = false) ∧
    ((decide (x.f1 < -1000000) || decide (1000000 < x.f1) || decide (x.f4 < -1) || decide (1 < x.f4) || (x.f0 != toldC l dd s x)) = false → secOk l dd s x = (!((decide (x.f1 < 0) || deadAt l dd s) && !x.f2) && !(x.f3 && (x.f1 == 0) && (x.f4 == -1) && !x.f2))) := by
  have e1 : (x.f1 == 0) = decide (x.f1 = 0) := by rw [Bool.eq_iff_iff]; simp
  have e2 : (x.f4 == -1) = decide (x.f4 = -1) := by rw [Bool.eq_iff_iff]; simp
  have e3 : (x.f0 != toldC l dd s x) = !decide (x.f0 = toldC l dd s x) := by rw [Bool.eq_iff_iff]; simp
  have e4 : secRange x = !(decide (x.f1 < -1000000) || decide (1000000 < x.f1) || decide (x.f4 < -1) || decide (1 < x.f4)) := by
    rw [Bool.eq_iff_iff]; simp only [secRange, Bool.and_eq_true, decide_eq_true_eq, Bool.not_eq_true', Bool.or_eq_false_iff, decide_eq_false_iff_not]; omega
  rw [e1, e2, e3]
  simp only [secOk, secRest, e4]
  cases (decide (x.f1 < -1000000) || decide (1000000 < x.f1) || decide (x.f4 < -1) || decide (1 < x.f4)) <;> cases decide (x.f0 = toldC l dd s x) <;> simp
theorem bad_of {x : S50} {r1 r2 t y : Bool} (h1 : (decide (-1000000 ≤ x.f1) && decide (x.f1 ≤ 1000000)) = r1) (h2 : (decide (-1 ≤ x.f4) && decide (x.f4 ≤ 1)) = r2) (h : (!r1 || !r2 || t) = y) :
    (decide (x.f1 < -1000000) || decide (1000000 < x.f1) || decide (x.f4 < -1) || decide (1 < x.f4) || t) = y := by
  subst h1 h2 h
  rw [Bool.eq_iff_iff]
  cases t
  · simp only [Bool.or_eq_true, decide_eq_true_eq, Bool.not_eq_true', Bool.and_eq_false_iff, decide_eq_false_iff_not, Bool.false_eq_true, or_false]
    omega
  · simp
end Go.Proofs.Ytpdnabhpkdchjaa.P
namespace Go.Proofs.Ytpdnabhpkdchjaa.P
open Go.RowKit Go.Proofs.YtpdnabhpkdchjaaW.PrintWords Go.Proofs.YtpdnabhpkdchjaaW.PrintLast Go.Proofs.YtpdnabhpkdchjaaW.PrintMore
attribute [local go_sem ↓] Go.wp_at_zero Go.wp_at_succ
set_option linter.unusedVariables false
set_option linter.unusedSimpArgs false
section
variable {n : Int} {A : Option Addr} {c : Nat} {l : List S88} {A2 : Option Addr} {c2 : Nat} {dd : List Bool} {w : World}
theorem in_v {x a b : Int} {y : Bool} (h : (decide (a ≤ x) && decide (x ≤ b)) = y) (w : World) : Calls Try.prog 87 #[.int .i64 x, .int .i64 a, .int .i64 b] w fun e w' => e = .returned (.bool y) ∧ Below w.heap.size w w' :=
  (spec_l1in.calls x a b y w (by rw [spec_l1in.f, ← h]; by_cases h1 : a ≤ x <;> simp [h1])).mono fun e w' ⟨he, hd⟩ => ⟨he, hd.below⟩
theorem sdeadv {x : Bool} (i : Int) (hx : deadAt l dd i = x) (hr : Kd.C k88 w A l.length l) (hc : l.length ≤ c) (hr2 : Kd.C Kd.bool w A2 dd.length dd) (hc2 : dd.length ≤ c2) (hl : layoutOk n l = 0) (h0 : 0 ≤ i) (h1 : i < n) (hd : dd.length = l.length) :
    Calls Try.prog 114 #[.agg #[.int .i64 n, .slice A l.length c], .slice A2 dd.length c2, .int .i64 i] w fun e w' => e = .returned (.bool x) ∧ Below w.heap.size w w' := by
  obtain ⟨k, h⟩ := (specDead_ev n l dd i hl ⟨h0, h1⟩ hd).rounds
  rw [← hx]
  exact spec_l2dead.calls k n A c l A2 c2 dd i _ w hr hc hr2 hc2 h
theorem stold_v {x : S50} {v : Int} (i : Int) (hx : toldC l dd i x = v) (hr : Kd.C k88 w A l.length l) (hc : l.length ≤ c) (hr2 : Kd.C Kd.bool w A2 dd.length dd) (hc2 : dd.length ≤ c2) (hl : layoutOk n l = 0) (h0 : 0 ≤ i) (h1 : i < n) (hd : dd.length = l.length) :
    Calls Try.prog 113 #[.agg #[.int .i64 n, .slice A l.length c], .slice A2 dd.length c2, .int .i64 i, .agg #[.int .i64 x.f0, .int .i64 x.f1, .bool x.f2, .bool x.f3, .int .i64 x.f4]] w fun e w' => e = .returned (.int .i64 v) ∧ Below w.heap.size w w' := by
  obtain ⟨k, h⟩ := (specTold_ev n l dd i x hl ⟨h0, h1⟩ hd).rounds
  rw [hx] at h
  exact spec_l2told.calls k n A c l A2 c2 dd i x.f0 x.f1 x.f2 x.f3 x.f4 _ w hr hc hr2 hc2 h
end
def st_T6 : Bool × List (List Nat × List Nat) := (true, [([], []), ([0], [0]), ([1], [1]), ([2], [2]), ([3, 2], [3]), ([4], [4]), ([5, 4], [4, 5]), ([6, 4, 4], [4, 6]), ([7, 4], [4, 7]), ([4, 8], [4, 8]), ([9, 7], [9]), ([10], [10]), ([11, 10], [10, 11]), ([10], [10]), ([10], [10]), ([14, 10], [10, 14]), ([10], [10]), ([10], [10]), ([13, 15, 16, 17, 10, 10], [10, 13, 15, 16, 17]), ([12, 18, 10], [10, 12, 18]), ([10, 19], [10, 19])])
def st_B6 : List Nat := [0, 1, 3, 7, 15, 31, 63, 127, 255, 511, 1023, 2047, 4095, 2047, 2047, 18431, 2047, 2047, 255999, 524287, 1048575]
theorem st_tab6 : rtab .any (opsOf Try.f56 6) = st_T6 := by kernel_rfl
theorem st_bits6 : waitsOk st_T6.2 st_B6 = true := by kernel_rfl
set_option maxHeartbeats 16000000 in
set_option maxRecDepth 100000 in
theorem sst_any {n : Int} {A : Option Addr} {c : Nat} {l : List S88} {b : Bool} {A1 : Option Addr} {c1 : Nat} {ss : List S50} {A2 : Option Addr} {c2 : Nat} {dd : List Bool} {w : World}
    (hr : Kd.C k88 w A l.length l) (hc : l.length ≤ c) (hr1 : Kd.C k50 w A1 ss.length ss) (hc1 : ss.length ≤ c1) (hr2 : Kd.C Kd.bool w A2 dd.length dd) (hc2 : dd.length ≤ c2) :
    Calls Try.prog 56 #[.agg #[.int .i64 n, .slice A l.length c], .agg #[.bool b, .slice A1 ss.length c1, .slice A2 dd.length c2]] w fun e w' => e = .returned (.bool (stateOk n l b ss dd)) ∧ Below w.heap.size w w' := by
  have HR := Aside0.mk hr
  have HR1 := Aside0.mk hr1
  have HR2 := Aside0.mk hr2
  have HC := Aside0.mk hc
  have HC1 := Aside0.mk hc1
  have HC2 := Aside0.mk hc2
  obtain ⟨lv, hlv⟩ : ∃ lv, layoutOk n l = lv := ⟨_, rfl⟩
  have HLV := Aside0.mk hlv
  obtain ⟨so, hso⟩ : ∃ so, stateOk n l b ss dd = so := ⟨_, rfl⟩
  have HSO := Aside0.mk hso
  rw [hso]
  have HT4 := Aside0.mk (stateOk_tests n l b ss dd)
  rw [hso, hlv] at HT4
  clear hr hr1 hr2 hc hc1 hc2 hlv hso
  go_enter Try.func56, Try.ntmps56
  go_upto_region 1 with (first | ((with_reducible refine gate_dst (N := 2) rfl ?_); refine box_event ?hg (N := 2) ?hd (cs := #[.int .i64 n, .slice A l.length c]) (t := 30) ?hr ?_; (case hd => rfl); (case hg => rfl); (case hr => first | (go_simp; done) | (go_simp; rfl)); intro gl el wl kl bl; clear el) | ((with_reducible refine gate_dst (N := 3) rfl ?_); refine box_event ?hg (N := 3) ?hd (cs := #[.bool b, .slice A1 ss.length c1, .slice A2 dd.length c2]) (t := 46) ?hr ?_; (case hd => rfl); (case hg => rfl); (case hr => first | (go_simp; done) | (go_simp; rfl)); intro gz ez wz kz bz; clear ez))
  have S0 : Aside0 (StSt w wz gl gz [.int .i64 n, .slice A l.length c] [.bool b, .slice A1 ss.length c1, .slice A2 dd.length c2]) := ⟨⟨below_step bl bz, blk_below kl bz, kz⟩⟩
  clear kl kz bl bz
  try simp only [Act.put, List.setIfInBounds_toArray, List.set_cons_zero, List.set_cons_succ]
  have kl0 : wz.cell? ⟨gl, 0, none⟩ = some (.int .i64 n) := (blk_cell S0.out.hl 0).trans rfl
  have kl1 : wz.cell? ⟨gl, 1, none⟩ = some (.slice A l.length c) := (blk_cell S0.out.hl 1).trans rfl
  by_cases hgood : (lv != 0) = false ∧ b = true ∧ ((ss.length : Int) != n) = false ∧ ((dd.length : Int) != (l.length : Int)) = false
  rotate_left
  · have HF := Aside0.mk (HT4.out.1 hgood)
    cases h1 : (lv != 0) <;> cases b <;> cases h3 : ((ss.length : Int) != n) <;> cases h4 : ((dd.length : Int) != (l.length : Int)) <;>
    rw [h1, h3, h4] at hgood <;>
    first
    | (simp at hgood; done)
    | (clear hgood
       go_wp2_with (go_at_call 23; refine (slay_is (Kd.C_below HR.out S0.out.hB) HC.out).mono ?_; rintro e w1 ⟨h, hb⟩; rw [HLV.out] at h; subst h; have S1 := Aside0.mk (S0.out.up hb); have kl0 : w1.cell? ⟨gl, 0, none⟩ = some (.int .i64 n) := (blk_cell S1.out.hl 0).trans rfl; have kl1 : w1.cell? ⟨gl, 1, none⟩ = some (.slice A l.length c) := (blk_cell S1.out.hl 1).trans rfl; have kz0 : w1.cell? ⟨gz, 0, none⟩ = some (.bool _) := (blk_cell S1.out.hz 0).trans rfl; have kz1 : w1.cell? ⟨gz, 1, none⟩ = some (.slice A1 ss.length c1) := (blk_cell S1.out.hz 1).trans rfl; have kz2 : w1.cell? ⟨gz, 2, none⟩ = some (.slice A2 dd.length c2) := (blk_cell S1.out.hz 2).trans rfl; clear hb)
       go_ret
       exact ⟨by rw [HF.out]; rfl, S1.out.hB⟩)
  obtain ⟨h1, rfl, h3, h4⟩ := hgood
  have HL := Aside0.mk (show layoutOk n l = 0 by rw [HLV.out]; simpa using h1)
  have HN := Aside0.mk (show (ss.length : Int) = n by simpa using h3)
  have HDL := Aside0.mk (show dd.length = l.length by simp at h4; omega)
  have HLL := Aside0.mk (show l.length ≤ 1048576 by have := lay_n HL.out; omega)
  have H60 := Aside0.mk (show ss.length ≤ 60 by have := lay_n HL.out; have := HN.out; omega)
  have HSF := Aside0.mk (show so = secsFrom l dd ss ss.length 0 from HT4.out.2 (by rw [← HLV.out]; exact HL.out) HN.out HDL.out rfl)
  clear HT4 HSO
  go_wp2_with (go_at_call 23; refine (slay_is (Kd.C_below HR.out S0.out.hB) HC.out).mono ?_; rintro e w1 ⟨h, hb⟩; rw [HLV.out] at h; subst h; have S1 := Aside0.mk (S0.out.up hb); have kl0 : w1.cell? ⟨gl, 0, none⟩ = some (.int .i64 n) := (blk_cell S1.out.hl 0).trans rfl; have kl1 : w1.cell? ⟨gl, 1, none⟩ = some (.slice A l.length c) := (blk_cell S1.out.hl 1).trans rfl; have kz0 : w1.cell? ⟨gz, 0, none⟩ = some (.bool true) := (blk_cell S1.out.hz 0).trans rfl; have kz1 : w1.cell? ⟨gz, 1, none⟩ = some (.slice A1 ss.length c1) := (blk_cell S1.out.hz 1).trans rfl; have kz2 : w1.cell? ⟨gz, 2, none⟩ = some (.slice A2 dd.length c2) := (blk_cell S1.out.hz 2).trans rfl; clear hb)
  clear S0 kl0 kl1 kz0 kz1 kz2 h1 h3 h4
  go_loopg [35] ss.length (fun kq v35 w' => ∃ j : Nat, v35 = .int .i64 j ∧ Aside0 (j + kq = ss.length) ∧ Aside0 (so = secsFrom l dd ss kq j) ∧ Aside0 (StSt w w' gl gz [.int .i64 n, .slice A l.length c] [.bool true, .slice A1 ss.length c1, .slice A2 dd.length c2]))
  case atStart => exact ⟨0, rfl, ⟨by omega⟩, HSF, S1⟩
  case round =>
    clear S1 HSF
    obtain ⟨j, rfl, HJ, HSF, SL⟩ := hrel
    by_cases hlt : j < ss.length
    · cases gk with
      | zero => exact absurd HJ.out (by omega)
      | succ gk =>
      have hlt' : decide ((j : Int) < (ss.length : Int)) = true := decide_eq_true (by omega)
      have q0 : (0 : Int) ≤ (j : Int) := by omega
      have q1 : (j : Int) < (ss.length : Int) := by omega
      have HJN := Aside0.mk (show (j : Int) < n by have := HN.out; omega)
      have HSF := Aside0.mk (show so = (secOk l dd (j : Int) (rd_T50 ss (j : Int)) && secsFrom l dd ss gk (j + 1)) from HSF.out)
      obtain ⟨ad, e, x0, x1, x2, x3, x4⟩ := at_T50 HR1.out (j : Int) q0 q1
      cases e
      rw [Int.toNat_natCast] at x0 x1 x2 x3 x4
      obtain ⟨tv, htv⟩ : ∃ tv, toldC l dd (j : Int) (rd_T50 ss (j : Int)) = tv := ⟨_, rfl⟩
      have HTV := Aside0.mk htv
      have HSK := Aside0.mk (secOk_parts l dd (j : Int) (rd_T50 ss (j : Int)))
      rw [htv] at HSK
      clear htv
      generalize rd_T50 ss (j : Int) = x at x0 x1 x2 x3 x4 HSF HSK HTV
      have y0 := pw_cell_below SL.out.hB x0
      have y1 := pw_cell_below SL.out.hB x1
      have y2 := pw_cell_below SL.out.hB x2
      have y3 := pw_cell_below SL.out.hB x3
      have y4 := pw_cell_below SL.out.hB x4
      clear x0 x1 x2 x3 x4
      go_upto_region 6 with ((with_reducible refine gate_dst (N := 6) rfl ?_); refine box_event ?hg (N := 6) ?hd (cs := #[.int .i64 0, .int .i64 0, .bool false, .bool false, .int .i64 0]) (t := 50) ?hr ?_; (case hd => rfl); (case hg => rfl); (case hr => first | (go_simp; done) | (go_simp; rfl)); intro gx ex wx kx bx; have EX := Aside0.mk ex; have KX := Aside0.mk kx; have BX := Aside0.mk bx; have kx0 : wx.cell? ⟨gx, 0, none⟩ = some (.int .i64 0) := (blk_cell KX.out 0).trans rfl; have kx1 : wx.cell? ⟨gx, 1, none⟩ = some (.int .i64 0) := (blk_cell KX.out 1).trans rfl; have kx2 : wx.cell? ⟨gx, 2, none⟩ = some (.bool false) := (blk_cell KX.out 2).trans rfl; have kx3 : wx.cell? ⟨gx, 3, none⟩ = some (.bool false) := (blk_cell KX.out 3).trans rfl; have kx4 : wx.cell? ⟨gx, 4, none⟩ = some (.int .i64 0) := (blk_cell KX.out 4).trans rfl; have zx0 := blk_frozen KX.out 0; have zx1 := blk_frozen KX.out 1; have zx2 := blk_frozen KX.out 2; have zx3 := blk_frozen KX.out 3; have zx4 := blk_frozen KX.out 4; clear ex kx bx)
      have S2 := Aside0.mk (SL.out.fill (y0 := .int .i64 x.f0) (y1 := .int .i64 x.f1) (y2 := .bool x.f2) (y3 := .bool x.f3) (y4 := .int .i64 x.f4) KX.out BX.out (Nat.le_of_eq EX.out.symm))
      clear kx0 kx1 kx2 kx3 kx4 zx0 zx1 zx2 zx3 zx4 KX BX y0 y1 y2 y3 y4
      generalize ((((wx.setCell ⟨gx, 0, none⟩ (.int .i64 x.f0)).setCell ⟨gx, 1, none⟩ (.int .i64 x.f1)).setCell ⟨gx, 2, none⟩ (.bool x.f2)).setCell ⟨gx, 3, none⟩ (.bool x.f3)).setCell ⟨gx, 4, none⟩ (.int .i64 x.f4) = w2 at S2 ⊢
      obtain ⟨r1, hr1v⟩ : ∃ r1, (decide (-1000000 ≤ x.f1) && decide (x.f1 ≤ 1000000)) = r1 := ⟨_, rfl⟩
      obtain ⟨r2, hr2v⟩ : ∃ r2, (decide (-1 ≤ x.f4) && decide (x.f4 ≤ 1)) = r2 := ⟨_, rfl⟩
      have HR1V := Aside0.mk hr1v
      have HR2V := Aside0.mk hr2v
      clear hr1v hr2v
      go_cut [60] from 36 to 100 (fun y wx => ∃ r, y = .bool r ∧ Aside0 (r = (!r1 || !r2 || (x.f0 != tv))) ∧ Aside0 (SeSt w wx gl gz gx [.int .i64 n, .slice A l.length c] [.bool true, .slice (some ad) ss.length c1, .slice A2 dd.length c2] [.int .i64 x.f0, .int .i64 x.f1, .bool x.f2, .bool x.f3, .int .i64 x.f4]))
      case first =>
        have SD := Aside0.mk (S2.out.up (below_drew1 (Below.refl w2.heap.size w2)))
        have kl0 : w2.drew.cell? ⟨gl, 0, none⟩ = some (.int .i64 n) := (blk_cell SD.out.S.hl 0).trans rfl
        have kl1 : w2.drew.cell? ⟨gl, 1, none⟩ = some (.slice A l.length c) := (blk_cell SD.out.S.hl 1).trans rfl
        have kz0 : w2.drew.cell? ⟨gz, 0, none⟩ = some (.bool true) := (blk_cell SD.out.S.hz 0).trans rfl
        have kz1 : w2.drew.cell? ⟨gz, 1, none⟩ = some (.slice (some ad) ss.length c1) := (blk_cell SD.out.S.hz 1).trans rfl
        have kz2 : w2.drew.cell? ⟨gz, 2, none⟩ = some (.slice A2 dd.length c2) := (blk_cell SD.out.S.hz 2).trans rfl
        have kx0 : w2.drew.cell? ⟨gx, 0, none⟩ = some (.int .i64 x.f0) := (blk_cell SD.out.hx 0).trans rfl
        have kx1 : w2.drew.cell? ⟨gx, 1, none⟩ = some (.int .i64 x.f1) := (blk_cell SD.out.hx 1).trans rfl
        have kx2 : w2.drew.cell? ⟨gx, 2, none⟩ = some (.bool x.f2) := (blk_cell SD.out.hx 2).trans rfl
        have kx3 : w2.drew.cell? ⟨gx, 3, none⟩ = some (.bool x.f3) := (blk_cell SD.out.hx 3).trans rfl
        have kx4 : w2.drew.cell? ⟨gx, 4, none⟩ = some (.int .i64 x.f4) := (blk_cell SD.out.hx 4).trans rfl
        have hways : r1 = false ∨ (r1 = true ∧ r2 = false) ∨ (r1 = true ∧ r2 = true) := by cases r1 <;> cases r2 <;> simp
        rcases hways with rfl | ⟨rfl, rfl⟩ | ⟨rfl, rfl⟩
        all_goals
          refine startK 21 (S := fun w' => w'.cell? ⟨gl, 0, none⟩ = some (.int .i64 n) ∧ w'.cell? ⟨gl, 1, none⟩ = some (.slice A l.length c) ∧ w'.cell? ⟨gz, 0, none⟩ = some (.bool true) ∧ w'.cell? ⟨gz, 1, none⟩ = some (.slice (some ad) ss.length c1) ∧ w'.cell? ⟨gz, 2, none⟩ = some (.slice A2 dd.length c2) ∧ w'.cell? ⟨gx, 0, none⟩ = some (.int .i64 x.f0) ∧ w'.cell? ⟨gx, 1, none⟩ = some (.int .i64 x.f1) ∧ w'.cell? ⟨gx, 2, none⟩ = some (.bool x.f2) ∧ w'.cell? ⟨gx, 3, none⟩ = some (.bool x.f3) ∧ w'.cell? ⟨gx, 4, none⟩ = some (.int .i64 x.f4)) (ds := []) (by kernel_rfl) rfl ⟨kl0, kl1, kz0, kz1, kz2, kx0, kx1, kx2, kx3, kx4⟩ (fun hHeld => ?_)
          refine with_tabW st_tab6 st_bits6 (fun HT_ HW_ => ?_)
          repeat (first
            | (refine take0 (v := ?_) (a' := ?_) (by simp only [Nat.reduceAdd]; rfl) (by rfl) HT_.out HW_.out (by kernel_rfl) (by exact fun _ _ _ h => h) hHeld ?_ ?_ ?_; rotate_left 2; (· rintro w' ⟨s0, s1, s2, s3, s4, s5, s6, s7, s8, s9⟩; go_simp; with_reducible rfl); (· simp only [Act.put, List.setIfInBounds_toArray, List.set_cons_zero, List.set_cons_succ, i64_w, i32_w]; rfl))
            | (refine takeG (v := ?_) (a' := ?_) (by simp only [Nat.reduceAdd]; rfl) (by rfl) (by rfl) HT_.out HW_.out (by kernel_rfl) (by exact fun _ _ _ h => h) hHeld ?_ ?_ ?_; rotate_left 2; (· first | (rw [if_neg (by decide)]; done) | (rw [if_pos (by decide)]; rintro w' ⟨s0, s1, s2, s3, s4, s5, s6, s7, s8, s9⟩; go_simp; with_reducible rfl)); (· simp only [Act.put, List.setIfInBounds_toArray, List.set_cons_zero, List.set_cons_succ, i64_w, i32_w]; rfl))
            | (refine oneK (by simp only [Nat.reduceAdd]; rfl) (by rfl) HT_.out (by kernel_rfl) (by decide) (fun K hK => ?_); refine goes_ Try.func87 (by kernel_rfl) rfl #[.int .i64 x.f1, .int .i64 (-1000000), .int .i64 1000000] (by rfl) rfl rfl (by (try simp only [List.map_toArray, List.map_cons, List.map_nil]); first | done | rfl | (simp only [List.length_drop, List.length_take]; rfl)) ?_; ((with_reducible refine (in_v HR1V.out _).mono ?_); rintro e w' ⟨rfl, hb⟩); refine ⟨_, rfl, ?_⟩; have SD := Aside0.mk (SD.out.up hb); refine hK.out _ _ ⟨pw_cell_below hb hHeld.1, pw_cell_below hb hHeld.2.1, pw_cell_below hb hHeld.2.2.1, pw_cell_below hb hHeld.2.2.2.1, pw_cell_below hb hHeld.2.2.2.2.1, pw_cell_below hb hHeld.2.2.2.2.2.1, pw_cell_below hb hHeld.2.2.2.2.2.2.1, pw_cell_below hb hHeld.2.2.2.2.2.2.2.1, pw_cell_below hb hHeld.2.2.2.2.2.2.2.2.1, pw_cell_below hb hHeld.2.2.2.2.2.2.2.2.2⟩ (fun hHeld => ?_); clear hK K; refine norm_ (a' := ?_) ?_ ?_; rotate_left; (· simp only [Act.put, List.setIfInBounds_toArray, List.set_cons_zero, List.set_cons_succ, i64_w, i32_w]; rfl))
            | (refine oneK (by simp only [Nat.reduceAdd]; rfl) (by rfl) HT_.out (by kernel_rfl) (by decide) (fun K hK => ?_); refine goes_ Try.func87 (by kernel_rfl) rfl #[.int .i64 x.f4, .int .i64 (-1), .int .i64 1] (by rfl) rfl rfl (by (try simp only [List.map_toArray, List.map_cons, List.map_nil]); first | done | rfl | (simp only [List.length_drop, List.length_take]; rfl)) ?_; ((with_reducible refine (in_v HR2V.out _).mono ?_); rintro e w' ⟨rfl, hb⟩); refine ⟨_, rfl, ?_⟩; have SD := Aside0.mk (SD.out.up hb); refine hK.out _ _ ⟨pw_cell_below hb hHeld.1, pw_cell_below hb hHeld.2.1, pw_cell_below hb hHeld.2.2.1, pw_cell_below hb hHeld.2.2.2.1, pw_cell_below hb hHeld.2.2.2.2.1, pw_cell_below hb hHeld.2.2.2.2.2.1, pw_cell_below hb hHeld.2.2.2.2.2.2.1, pw_cell_below hb hHeld.2.2.2.2.2.2.2.1, pw_cell_below hb hHeld.2.2.2.2.2.2.2.2.1, pw_cell_below hb hHeld.2.2.2.2.2.2.2.2.2⟩ (fun hHeld => ?_); clear hK K; refine norm_ (a' := ?_) ?_ ?_; rotate_left; (· simp only [Act.put, List.setIfInBounds_toArray, List.set_cons_zero, List.set_cons_succ, i64_w, i32_w]; rfl))
            | (refine oneK (by simp only [Nat.reduceAdd]; rfl) (by rfl) HT_.out (by kernel_rfl) (by decide) (fun K hK => ?_); refine goes_ Try.func113 (by kernel_rfl) rfl #[.agg #[.int .i64 n, .slice A l.length c], .slice A2 dd.length c2, .int .i64 (j : Int), .agg #[.int .i64 x.f0, .int .i64 x.f1, .bool x.f2, .bool x.f3, .int .i64 x.f4]] (by rfl) rfl rfl (by (try simp only [List.map_toArray, List.map_cons, List.map_nil]); first | done | rfl | (simp only [List.length_drop, List.length_take]; rfl)) ?_; ((with_reducible refine (stold_v (j : Int) HTV.out (Kd.C_below HR.out SD.out.S.hB) HC.out (Kd.C_below HR2.out SD.out.S.hB) HC2.out HL.out q0 HJN.out HDL.out).mono ?_); rintro e w' ⟨rfl, hb⟩); refine ⟨_, rfl, ?_⟩; have SD := Aside0.mk (SD.out.up hb); refine hK.out _ _ ⟨pw_cell_below hb hHeld.1, pw_cell_below hb hHeld.2.1, pw_cell_below hb hHeld.2.2.1, pw_cell_below hb hHeld.2.2.2.1, pw_cell_below hb hHeld.2.2.2.2.1, pw_cell_below hb hHeld.2.2.2.2.2.1, pw_cell_below hb hHeld.2.2.2.2.2.2.1, pw_cell_below hb hHeld.2.2.2.2.2.2.2.1, pw_cell_below hb hHeld.2.2.2.2.2.2.2.2.1, pw_cell_below hb hHeld.2.2.2.2.2.2.2.2.2⟩ (fun hHeld => ?_); clear hK K; refine norm_ (a' := ?_) ?_ ?_; rotate_left; (· simp only [Act.put, List.setIfInBounds_toArray, List.set_cons_zero, List.set_cons_succ, i64_w, i32_w]; rfl)))
          refine done_ (done_of HT_.out (by kernel_rfl)) ?_
          go_wp2_with fail
          go_meet
          exact ⟨_, rfl, ⟨by simp only [Bool.or_true, Bool.true_or, Bool.false_or, Bool.or_false, Bool.not_true, Bool.not_false]⟩, SD⟩
      case rest =>
        obtain ⟨r6, rfl, H6, SD⟩ := hcut
        clear S2
        have W1 := Aside0.mk (show wrap64 ((j : Int) + 1) = ((j + 1 : Nat) : Int) from (wrap_id (by omega) (by have := H60.out; omega)).trans (by omega))
        cases r6 with
        | true =>
          have HFF := Aside0.mk (show so = false by rw [HSF.out, HSK.out.1 (bad_of HR1V.out HR2V.out H6.out.symm)]; rfl)
          go_wp2_with fail
          go_ret
          exact ⟨by rw [HFF.out]; rfl, SD.out.S.hB⟩
        | false =>
          have HRV := Aside0.mk (HSK.out.2 (bad_of HR1V.out HR2V.out H6.out.symm))
          clear HSK H6 HTV
          have kl0 : wc.cell? ⟨gl, 0, none⟩ = some (.int .i64 n) := (blk_cell SD.out.S.hl 0).trans rfl
          have kl1 : wc.cell? ⟨gl, 1, none⟩ = some (.slice A l.length c) := (blk_cell SD.out.S.hl 1).trans rfl
          have kz0 : wc.cell? ⟨gz, 0, none⟩ = some (.bool true) := (blk_cell SD.out.S.hz 0).trans rfl
          have kz1 : wc.cell? ⟨gz, 1, none⟩ = some (.slice (some ad) ss.length c1) := (blk_cell SD.out.S.hz 1).trans rfl
          have kz2 : wc.cell? ⟨gz, 2, none⟩ = some (.slice A2 dd.length c2) := (blk_cell SD.out.S.hz 2).trans rfl
          have kx0 : wc.cell? ⟨gx, 0, none⟩ = some (.int .i64 x.f0) := (blk_cell SD.out.hx 0).trans rfl
          have kx1 : wc.cell? ⟨gx, 1, none⟩ = some (.int .i64 x.f1) := (blk_cell SD.out.hx 1).trans rfl
          have kx2 : wc.cell? ⟨gx, 2, none⟩ = some (.bool x.f2) := (blk_cell SD.out.hx 2).trans rfl
          have kx3 : wc.cell? ⟨gx, 3, none⟩ = some (.bool x.f3) := (blk_cell SD.out.hx 3).trans rfl
          have kx4 : wc.cell? ⟨gx, 4, none⟩ = some (.int .i64 x.f4) := (blk_cell SD.out.hx 4).trans rfl
          rw [HRV.out] at HSF
          clear HRV
          cases hp : decide (x.f1 < 0) <;> cases hq : x.f2 <;> cases hd : deadAt l dd (j : Int) <;> cases hr : x.f3 <;> cases hz : (x.f1 == 0) <;> cases hm : (x.f4 == -1) <;> rw [hp, hq, hd, hr, hz, hm] at HSF <;>
          (rw [hq] at kx2
           rw [hr] at kx3
           have HD := Aside0.mk hd
           clear hd
           go_wp2_with (go_at_call 114; refine (sdeadv (j : Int) HD.out (Kd.C_below HR.out SD.out.S.hB) HC.out (Kd.C_below HR2.out SD.out.S.hB) HC2.out HL.out q0 HJN.out HDL.out).mono ?_; rintro e w9 ⟨rfl, hb⟩; have SD := Aside0.mk (SD.out.up hb); have kx0 := pw_cell_below hb kx0; have kx1 := pw_cell_below hb kx1; have kx2 := pw_cell_below hb kx2; have kx3 := pw_cell_below hb kx3; have kx4 := pw_cell_below hb kx4; clear hb)
           first
           | (go_roundg gk
              case measure => omega
              case rel => exact ⟨j + 1, congrArg (Value.int .i64) W1.out, ⟨by have := HJ.out; omega⟩, ⟨HSF.out.trans rfl⟩, ⟨SD.out.S⟩⟩)
           | (go_ret
              exact ⟨by rw [HSF.out]; rfl, SD.out.S.hB⟩))
    · have hlt' : decide ((j : Int) < (ss.length : Int)) = false := decide_eq_false (by omega)
      have HFT := Aside0.mk (show so = true by rw [HSF.out, show gk = 0 by have := HJ.out; omega]; rfl)
      go_wp2
      go_ret
      exact ⟨by rw [HFT.out]; rfl, SL.out.hB⟩
theorem sst_ok {n : Int} {A : Option Addr} {c : Nat} {l : List S88} {b : Bool} {A1 : Option Addr} {c1 : Nat} {ss : List S50} {A2 : Option Addr} {c2 : Nat} {dd : List Bool} {w : World}
    (hst : stateOk n l b ss dd = true) (hr : Kd.C k88 w A l.length l) (hc : l.length ≤ c) (hr1 : Kd.C k50 w A1 ss.length ss) (hc1 : ss.length ≤ c1) (hr2 : Kd.C Kd.bool w A2 dd.length dd) (hc2 : dd.length ≤ c2) :
    Calls Try.prog 56 #[.agg #[.int .i64 n, .slice A l.length c], .agg #[.bool b, .slice A1 ss.length c1, .slice A2 dd.length c2]] w fun e w' => e = .returned (.bool true) ∧ Below w.heap.size w w' := by
  have h := sst_any (n := n) (b := b) hr hc hr1 hc1 hr2 hc2
  rwa [hst] at h
end Go.Proofs.Ytpdnabhpkdchjaa.P
namespace Go.Proofs.Ytpdnabhpkdchjaa.P
open Go.RowKit Go.Proofs.YtpdnabhpkdchjaaW.PrintWords Go.Proofs.YtpdnabhpkdchjaaW.PrintLast Go.Proofs.YtpdnabhpkdchjaaW.PrintMore
attribute [local go_sem ↓] Go.wp_at_zero Go.wp_at_succ
set_option linter.unusedVariables false
set_option linter.unusedSimpArgs false
def sd_T38 : Bool × List (List Nat × List Nat) := (true, [([], []), ([0], [0]), ([], []), ([], []), ([], []), ([4], [4]), ([], []), ([], []), ([7], [7]), ([], []), ([8, 9], [8, 9]), ([10], [10]), ([3, 5, 6, 11], [3, 5, 6, 11]), ([1, 2, 0, 1, 2, 3, 4, 5, 6, 7, 8, 9, 10, 11, 12], [1, 2]), ([13, 0, 1, 2, 3, 4, 5, 6, 7, 8, 9, 10, 11, 12], [13]), ([14, 12, 12, 0, 1, 2, 3, 4, 5, 6, 7, 8, 9, 10, 11, 12], [12, 14])])
def sd_B38 : List Nat := [0, 1, 0, 0, 0, 16, 0, 0, 128, 0, 896, 1920, 4088, 8191, 16383, 32767]
theorem sd_tab38 : rtab .any (opsOf Try.f69 38) = sd_T38 := by kernel_rfl
theorem sd_bits38 : waitsOk sd_T38.2 sd_B38 = true := by kernel_rfl
structure SpSt (w0 w : World) (gl gz go ge gd : Nat) (lv zv sv ev dv : List Value) (v1 v2 : Value) (ss : List S50) (dd : List Bool) : Prop where
  D : DoSt w0 w gl go ge gd lv sv ev dv v1 v2 ss dd
  hz : w.heap[gz]? = some (.cells zv.toArray 46 (0, 0))
section
variable {w0 w w' : World} {gl gz go ge gd : Nat} {lv zv sv ev dv : List Value} {v1 v2 : Value} {ss ss' : List S50} {dd dd' : List Bool}
theorem SpSt.up (h : SpSt w0 w gl gz go ge gd lv zv sv ev dv v1 v2 ss dd) (hb : Below w.heap.size w w') : SpSt w0 w' gl gz go ge gd lv zv sv ev dv v1 v2 ss dd := ⟨h.D.up hb, blk_below h.hz hb⟩
theorem SpSt.sec {gr m cr : Nat} (h : SpSt w0 w gl gz go ge gd lv zv sv ev dv (.slice (some ⟨gr, 0, none⟩) m cr) v2 ss dd) (H1 : Kd.R k50 50 w' w0.heap.size (fun _ => True) (.slice (some ⟨gr, 0, none⟩) m cr) ss') (hg : w.grownBy w' (some gr)) :
    SpSt w0 w' gl gz go ge gd lv zv sv ev dv (.slice (some ⟨gr, 0, none⟩) m cr) v2 ss' dd := ⟨h.D.sec H1 hg, blk_grown h.hz hg (Kd.R_ne h.D.H1 h.hz (by decide))⟩
theorem SpSt.dead {gb m cb : Nat} (h : SpSt w0 w gl gz go ge gd lv zv sv ev dv v1 (.slice (some ⟨gb, 0, none⟩) m cb) ss dd) (i : Int) (x : Bool) :
    SpSt w0 (w.setCell ⟨gb, i.toNat, none⟩ (.bool x)) gl gz go ge gd lv zv sv ev dv v1 (.slice (some ⟨gb, 0, none⟩) m cb) ss (dd.set i.toNat x) :=
  ⟨h.D.dead i x, blk_grown h.hz (Kd.R_putg h.D.H2 i x).2 (Kd.R_ne h.D.H2 h.hz (by decide))⟩
end
theorem in_any (s : Int) (bo : Bool) (g gr n c : Nat) (v2 : Value) (l : List S50) (w : World) (base : Nat) (ok : Nat → Prop) (h1 : s < n)
    (hb : w.heap[g]? = some (.cells #[.bool bo, .slice (some ⟨gr, 0, none⟩) n c, v2] 46 (0, 0))) (HO : Kd.R k50 50 w base ok (.slice (some ⟨gr, 0, none⟩) n c) l) :
    Calls Try.prog 118 #[.pointer (some ⟨g, 0, none⟩), .int .i64 s, .int .i64 1] w fun e w' => e = .returned (.tuple #[]) ∧ Kd.R k50 50 w' base ok (.slice (some ⟨gr, 0, none⟩) n c) (addS l s 1) ∧ w.grownBy w' (some gr) := by
  by_cases h0 : s < 0
  · refine (add_none s 1 _ w h0).mono ?_
    rintro e w' ⟨he, rfl⟩
    exact ⟨he, by rw [addS, if_pos h0]; exact HO, World.grownBy.refl w _⟩
  · rw [addS, if_neg h0]
    exact add_in s bo g gr n c v2 l w base ok (by omega) h1 hb HO
theorem out_any (s : Int) (bo : Bool) (g gr n c : Nat) (v2 : Value) (l : List S50) (w : World) (base : Nat) (ok : Nat → Prop) (h1 : s < n)
    (hb : w.heap[g]? = some (.cells #[.bool bo, .slice (some ⟨gr, 0, none⟩) n c, v2] 46 (0, 0))) (HO : Kd.R k50 50 w base ok (.slice (some ⟨gr, 0, none⟩) n c) l) :
    Calls Try.prog 118 #[.pointer (some ⟨g, 0, none⟩), .int .i64 s, .int .i64 (-1)] w fun e w' => e = .returned (.tuple #[]) ∧ Kd.R k50 50 w' base ok (.slice (some ⟨gr, 0, none⟩) n c) (addS l s (-1)) ∧ w.grownBy w' (some gr) := by
  by_cases h0 : s < 0
  · refine (add_none s (-1) _ w h0).mono ?_
    rintro e w' ⟨he, rfl⟩
    exact ⟨he, by rw [addS, if_pos h0]; exact HO, World.grownBy.refl w _⟩
  · rw [addS, if_neg h0]
    exact add_out s bo g gr n c v2 l w base ok (by omega) h1 hb HO
section
variable {n : Int} {A : Option Addr} {c : Nat} {l : List S88} {b : Bool} {A1 : Option Addr} {c1 : Nat} {ss : List S50} {A2 : Option Addr} {c2 : Nat} {dd : List Bool} {w : World}
theorem sev_at {v : Bool} (op of dir : Int) (hv : eventOk n l op of dir = v) (hr : Kd.C k88 w A l.length l) (hc : l.length ≤ c) : Calls Try.prog 34 #[.agg #[.int .i64 n, .slice A l.length c], .agg #[.int .i64 op, .int .i64 of, .int .i64 dir]] w fun e w' => e = .returned (.bool v) ∧ Below w.heap.size w w' := hv ▸ sev_is op of dir hr hc
theorem sdead_at {x : Bool} (i : Int) (hx : deadAt l dd i = x) (hr : Kd.C k88 w A l.length l) (hc : l.length ≤ c) (hr2 : Kd.C Kd.bool w A2 dd.length dd) (hc2 : dd.length ≤ c2) (hl : layoutOk n l = 0) (h0 : 0 ≤ i) (h1 : i < n) (hd : dd.length = l.length) :
    Calls Try.prog 114 #[.agg #[.int .i64 n, .slice A l.length c], .slice A2 dd.length c2, .int .i64 i] w fun e w' => e = .returned (.bool x) ∧ Below w.heap.size w w' := by
  obtain ⟨k, h⟩ := (specDead_ev n l dd i hl ⟨h0, h1⟩ hd).rounds
  rw [← hx]
  exact spec_l2dead.calls k n A c l A2 c2 dd i _ w hr hc hr2 hc2 h
theorem stold_of {m2 b2 : Nat} {o2 : Nat → Prop} (i : Int) (x : S50) (hr : Kd.C k88 w A l.length l) (hc : l.length ≤ c) (H2 : Kd.R Kd.bool 4 w b2 o2 (.slice A2 m2 c2) dd) (e2 : m2 = dd.length) (hl : layoutOk n l = 0) (h0 : 0 ≤ i) (h1 : i < n) (hd : dd.length = l.length) :
    Calls Try.prog 113 #[.agg #[.int .i64 n, .slice A l.length c], .slice A2 m2 c2, .int .i64 i, .agg #[.int .i64 x.f0, .int .i64 x.f1, .bool x.f2, .bool x.f3, .int .i64 x.f4]] w fun e w' => e = .returned (.int .i64 (toldC l dd i x)) ∧ Below w.heap.size w w' := by
  subst e2
  obtain ⟨k, h⟩ := (specTold_ev n l dd i x hl ⟨h0, h1⟩ hd).rounds
  exact spec_l2told.calls k n A c l A2 c2 dd i x.f0 x.f1 x.f2 x.f3 x.f4 _ w hr hc (Kd.R_reads' H2).2.2 (Kd.R_reads' H2).2.1 h
end
def loseTo (ss : List S50) (f t : Int) : Nat → List S50
  | 0 => ss
  | 1 => loseAt ss f
  | _ => loseAt (loseAt ss f) t
set_option maxHeartbeats 4000000 in
set_option maxRecDepth 100000 in
theorem sdo_badE (n : Int) (A : Option Addr) (c : Nat) (l : List S88) (b : Bool) (A1 : Option Addr) (c1 : Nat) (ss : List S50) (A2 : Option Addr) (c2 : Nat) (dd : List Bool) (op of dir : Int) (w : World)
    (hr : Kd.C k88 w A l.length l) (hc : l.length ≤ c) (hr1 : Kd.C k50 w A1 ss.length ss) (hc1 : ss.length ≤ c1) (hr2 : Kd.C Kd.bool w A2 dd.length dd) (hc2 : dd.length ≤ c2) (hst : stateOk n l b ss dd = true) (hev : eventOk n l op of dir = false) :
    Calls Try.prog 69 #[.agg #[.int .i64 n, .slice A l.length c], .agg #[.bool b, .slice A1 ss.length c1, .slice A2 dd.length c2], .agg #[.int .i64 op, .int .i64 of, .int .i64 dir]] w fun e w' => e = .returned (.agg #[.int .i64 1, .bool false, .slice none 0 0, .slice none 0 0]) ∧ Below w.heap.size w w' := by
  have HR := Aside0.mk hr
  have HR1 := Aside0.mk hr1
  have HR2 := Aside0.mk hr2
  clear hr hr1 hr2
  go_enter Try.func69, Try.ntmps69
  go_upto_region 1 with (first | ((with_reducible refine gate_dst (N := 3) rfl ?_); refine box_event ?hg (N := 3) ?hd (cs := #[.int .i64 n, .slice A l.length c]) (t := 30) ?hr ?_; (case hd => rfl); (case hg => rfl); (case hr => first | (go_simp; done) | (go_simp; rfl)); intro gl el wl kl bl) | ((with_reducible refine gate_dst (N := 4) rfl ?_); refine box_event ?hg (N := 4) ?hd (cs := #[.bool b, .slice A1 ss.length c1, .slice A2 dd.length c2]) (t := 46) ?hr ?_; (case hd => rfl); (case hg => rfl); (case hr => first | (go_simp; done) | (go_simp; rfl)); intro gz ez wz kz bz) | ((with_reducible refine gate_dst (N := 5) rfl ?_); refine box_event ?hg (N := 5) ?hd (cs := #[.int .i64 op, .int .i64 of, .int .i64 dir]) (t := 56) ?hr ?_; (case hd => rfl); (case hg => rfl); (case hr => first | (go_simp; done) | (go_simp; rfl)); intro ge ee we ke be) | ((with_reducible refine gate_dst (N := 6) rfl ?_); refine box_event ?hg (N := 6) ?hd (cs := #[.int .i64 0, .bool false, .slice none 0 0, .slice none 0 0]) (t := 48) ?hr ?_; (case hd => rfl); (case hg => rfl); (case hr => first | (go_simp; done) | (go_simp; rfl)); intro gd ed wd kd_ bd))
  have KL := Aside0.mk (blk_below (blk_below (blk_below kl bz) be) bd)
  have KZ := Aside0.mk (blk_below (blk_below kz be) bd)
  have KE := Aside0.mk (blk_below ke bd)
  have KD := Aside0.mk kd_
  have BB := Aside0.mk (below_step (below_step (below_step bl bz) be) bd)
  have GL := Aside0.mk (show w.heap.size ≤ gl by rw [el]; exact Nat.le_refl _)
  have GZ := Aside0.mk (show w.heap.size ≤ gz by rw [ez]; exact bl.size)
  have GE := Aside0.mk (show w.heap.size ≤ ge by rw [ee]; exact (below_step bl bz).size)
  have GD := Aside0.mk (show w.heap.size ≤ gd by rw [ed]; exact (below_step (below_step bl bz) be).size)
  clear kl kz ke kd_ bl bz be bd el ez ee ed
  simp only [Act.put, List.setIfInBounds_toArray, List.set_cons_zero, List.set_cons_succ]
  have kl0 : wd.cell? ⟨gl, 0, none⟩ = some (.int .i64 n) := (blk_cell KL.out 0).trans rfl
  have kl1 : wd.cell? ⟨gl, 1, none⟩ = some (.slice A l.length c) := (blk_cell KL.out 1).trans rfl
  have kz0 : wd.cell? ⟨gz, 0, none⟩ = some (.bool b) := (blk_cell KZ.out 0).trans rfl
  have kz1 : wd.cell? ⟨gz, 1, none⟩ = some (.slice A1 ss.length c1) := (blk_cell KZ.out 1).trans rfl
  have kz2 : wd.cell? ⟨gz, 2, none⟩ = some (.slice A2 dd.length c2) := (blk_cell KZ.out 2).trans rfl
  have ke0 : wd.cell? ⟨ge, 0, none⟩ = some (.int .i64 op) := (blk_cell KE.out 0).trans rfl
  have ke1 : wd.cell? ⟨ge, 1, none⟩ = some (.int .i64 of) := (blk_cell KE.out 1).trans rfl
  have ke2 : wd.cell? ⟨ge, 2, none⟩ = some (.int .i64 dir) := (blk_cell KE.out 2).trans rfl
  have kd0 : wd.cell? ⟨gd, 0, none⟩ = some (.int .i64 0) := (blk_cell KD.out 0).trans rfl
  have kd1 : wd.cell? ⟨gd, 1, none⟩ = some (.bool false) := (blk_cell KD.out 1).trans rfl
  have kd2 : wd.cell? ⟨gd, 2, none⟩ = some (.slice none 0 0) := (blk_cell KD.out 2).trans rfl
  have kd3 : wd.cell? ⟨gd, 3, none⟩ = some (.slice none 0 0) := (blk_cell KD.out 3).trans rfl
  have zd0 := blk_frozen KD.out 0
  have zd1 := blk_frozen KD.out 1
  have zd2 := blk_frozen KD.out 2
  have zd3 := blk_frozen KD.out 3
  go_wp2_with (first | (go_at_call 56; refine (sst_ok hst (Kd.C_below HR.out BB.out) hc (Kd.C_below HR1.out BB.out) hc1 (Kd.C_below HR2.out BB.out) hc2).mono ?_; rintro e w1 ⟨rfl, hb⟩; have KL := Aside0.mk (blk_below KL.out hb); have KZ := Aside0.mk (blk_below KZ.out hb); have KE := Aside0.mk (blk_below KE.out hb); have KD := Aside0.mk (blk_below KD.out hb); have BB := Aside0.mk (below_step BB.out hb); clear hb; have kl0 : w1.cell? ⟨gl, 0, none⟩ = some (.int .i64 n) := (blk_cell KL.out 0).trans rfl; have kl1 : w1.cell? ⟨gl, 1, none⟩ = some (.slice A l.length c) := (blk_cell KL.out 1).trans rfl; have kz0 : w1.cell? ⟨gz, 0, none⟩ = some (.bool b) := (blk_cell KZ.out 0).trans rfl; have kz1 : w1.cell? ⟨gz, 1, none⟩ = some (.slice A1 ss.length c1) := (blk_cell KZ.out 1).trans rfl; have kz2 : w1.cell? ⟨gz, 2, none⟩ = some (.slice A2 dd.length c2) := (blk_cell KZ.out 2).trans rfl; have ke0 : w1.cell? ⟨ge, 0, none⟩ = some (.int .i64 op) := (blk_cell KE.out 0).trans rfl; have ke1 : w1.cell? ⟨ge, 1, none⟩ = some (.int .i64 of) := (blk_cell KE.out 1).trans rfl; have ke2 : w1.cell? ⟨ge, 2, none⟩ = some (.int .i64 dir) := (blk_cell KE.out 2).trans rfl; have kd0 : w1.cell? ⟨gd, 0, none⟩ = some (.int .i64 0) := (blk_cell KD.out 0).trans rfl; have kd1 : w1.cell? ⟨gd, 1, none⟩ = some (.bool false) := (blk_cell KD.out 1).trans rfl; have kd2 : w1.cell? ⟨gd, 2, none⟩ = some (.slice none 0 0) := (blk_cell KD.out 2).trans rfl; have kd3 : w1.cell? ⟨gd, 3, none⟩ = some (.slice none 0 0) := (blk_cell KD.out 3).trans rfl; have zd0 := blk_frozen KD.out 0; have zd1 := blk_frozen KD.out 1; have zd2 := blk_frozen KD.out 2; have zd3 := blk_frozen KD.out 3) | (go_at_call 34; refine (sev_at op of dir hev (Kd.C_below HR.out BB.out) hc).mono ?_; rintro e w2 ⟨rfl, hb⟩; have KL := Aside0.mk (blk_below KL.out hb); have KZ := Aside0.mk (blk_below KZ.out hb); have KE := Aside0.mk (blk_below KE.out hb); have KD := Aside0.mk (blk_below KD.out hb); have BB := Aside0.mk (below_step BB.out hb); clear hb; have kl0 : w2.cell? ⟨gl, 0, none⟩ = some (.int .i64 n) := (blk_cell KL.out 0).trans rfl; have kl1 : w2.cell? ⟨gl, 1, none⟩ = some (.slice A l.length c) := (blk_cell KL.out 1).trans rfl; have kz0 : w2.cell? ⟨gz, 0, none⟩ = some (.bool b) := (blk_cell KZ.out 0).trans rfl; have kz1 : w2.cell? ⟨gz, 1, none⟩ = some (.slice A1 ss.length c1) := (blk_cell KZ.out 1).trans rfl; have kz2 : w2.cell? ⟨gz, 2, none⟩ = some (.slice A2 dd.length c2) := (blk_cell KZ.out 2).trans rfl; have ke0 : w2.cell? ⟨ge, 0, none⟩ = some (.int .i64 op) := (blk_cell KE.out 0).trans rfl; have ke1 : w2.cell? ⟨ge, 1, none⟩ = some (.int .i64 of) := (blk_cell KE.out 1).trans rfl; have ke2 : w2.cell? ⟨ge, 2, none⟩ = some (.int .i64 dir) := (blk_cell KE.out 2).trans rfl; have kd0 : w2.cell? ⟨gd, 0, none⟩ = some (.int .i64 0) := (blk_cell KD.out 0).trans rfl; have kd1 : w2.cell? ⟨gd, 1, none⟩ = some (.bool false) := (blk_cell KD.out 1).trans rfl; have kd2 : w2.cell? ⟨gd, 2, none⟩ = some (.slice none 0 0) := (blk_cell KD.out 2).trans rfl; have kd3 : w2.cell? ⟨gd, 3, none⟩ = some (.slice none 0 0) := (blk_cell KD.out 3).trans rfl; have zd0 := blk_frozen KD.out 0; have zd1 := blk_frozen KD.out 1; have zd2 := blk_frozen KD.out 2; have zd3 := blk_frozen KD.out 3))
  have KF := blk_put (blk_put (blk_put (blk_put KD.out 0 (.int .i64 1) rfl) 1 (.bool false) rfl) 2 (.slice none 0 0) rfl) 3 (.slice none 0 0) rfl
  have BF := below_set (j := 3) (v := .slice none 0 0) (below_set (j := 2) (v := .slice none 0 0) (below_set (j := 1) (v := .bool false) (below_set (j := 0) (v := .int .i64 1) BB.out GD.out) GD.out) GD.out) GD.out
  exact bodyPost_ret (results_cell_row rfl _ _ gd 48 _ (0, 0) _ rfl KF Try.underlying48 rfl (by kernel_rfl)) rfl ⟨rfl, BF⟩
set_option maxHeartbeats 16000000 in
set_option maxRecDepth 100000 in
theorem sdo_is (n : Int) (A : Option Addr) (c : Nat) (l : List S88) (b : Bool) (A1 : Option Addr) (c1 : Nat) (ss : List S50) (A2 : Option Addr) (c2 : Nat) (dd : List Bool) (op of dir : Int) (w : World)
    (hr : Kd.C k88 w A l.length l) (hc : l.length ≤ c) (hr1 : Kd.C k50 w A1 ss.length ss) (hc1 : ss.length ≤ c1) (hr2 : Kd.C Kd.bool w A2 dd.length dd) (hc2 : dd.length ≤ c2)
    (hst : stateOk n l b ss dd = true) (hev : eventOk n l op of dir = true) :
    Calls Try.prog 69 #[.agg #[.int .i64 n, .slice A l.length c], .agg #[.bool b, .slice A1 ss.length c1, .slice A2 dd.length c2], .agg #[.int .i64 op, .int .i64 of, .int .i64 dir]] w fun e w' => ∃ v2_ v3_ : Value, e = .returned (.agg #[.int .i64 (doCode l ss dd op of), .bool true, v2_, v3_]) ∧ Kd.R k50 50 w' w.heap.size (fun _ => True) v2_ (doSecs l ss dd op of dir) ∧ Kd.R Kd.bool 4 w' w.heap.size (fun _ => True) v3_ (doDead l ss dd op of) ∧ Below w.heap.size w w' := by
  obtain ⟨hl, rfl, hns, hnd, hsec⟩ := stateOk_of hst
  have hn := lay_n hl
  have hs : ss.length ≤ 1048576 := by omega
  have hd : dd.length ≤ 1048576 := by omega
  have hpos : 0 < ss.length := by omega
  have HST := Aside0.mk hst
  have HEV := Aside0.mk hev
  have HSE := Aside0.mk hsec
  have HN := Aside0.mk (And.intro hl (And.intro hns (And.intro hnd hn)))
  clear hst hev hsec hl hns hnd hn
  have HR := Aside0.mk hr
  have HR1 := Aside0.mk hr1
  have HR2 := Aside0.mk hr2
  clear hr hr1 hr2
  go_enter Try.func69, Try.ntmps69
  go_upto_region 1 with (first | ((with_reducible refine gate_dst (N := 3) rfl ?_); refine box_event ?hg (N := 3) ?hd (cs := #[.int .i64 n, .slice A l.length c]) (t := 30) ?hr ?_; (case hd => rfl); (case hg => rfl); (case hr => first | (go_simp; done) | (go_simp; rfl)); intro gl el wl kl bl) | ((with_reducible refine gate_dst (N := 4) rfl ?_); refine box_event ?hg (N := 4) ?hd (cs := #[.bool true, .slice A1 ss.length c1, .slice A2 dd.length c2]) (t := 46) ?hr ?_; (case hd => rfl); (case hg => rfl); (case hr => first | (go_simp; done) | (go_simp; rfl)); intro gz ez wz kz bz) | ((with_reducible refine gate_dst (N := 5) rfl ?_); refine box_event ?hg (N := 5) ?hd (cs := #[.int .i64 op, .int .i64 of, .int .i64 dir]) (t := 56) ?hr ?_; (case hd => rfl); (case hg => rfl); (case hr => first | (go_simp; done) | (go_simp; rfl)); intro ge ee we ke be) | ((with_reducible refine gate_dst (N := 6) rfl ?_); refine box_event ?hg (N := 6) ?hd (cs := #[.int .i64 0, .bool false, .slice none 0 0, .slice none 0 0]) (t := 48) ?hr ?_; (case hd => rfl); (case hg => rfl); (case hr => first | (go_simp; done) | (go_simp; rfl)); intro gd ed wd kd_ bd))
  have KL := Aside0.mk (blk_below (blk_below (blk_below kl bz) be) bd)
  have KZ := Aside0.mk (blk_below (blk_below kz be) bd)
  have KE := Aside0.mk (blk_below ke bd)
  have KD := Aside0.mk kd_
  have BB := Aside0.mk (below_step (below_step (below_step bl bz) be) bd)
  have GL := Aside0.mk (show w.heap.size ≤ gl by rw [el]; exact Nat.le_refl _)
  have GZ := Aside0.mk (show w.heap.size ≤ gz by rw [ez]; exact bl.size)
  have GE := Aside0.mk (show w.heap.size ≤ ge by rw [ee]; exact (below_step bl bz).size)
  have GD := Aside0.mk (show w.heap.size ≤ gd by rw [ed]; exact (below_step (below_step bl bz) be).size)
  clear kl kz ke kd_ bl bz be bd el ez ee ed
  simp only [Act.put, List.setIfInBounds_toArray, List.set_cons_zero, List.set_cons_succ]
  have kl0 : wd.cell? ⟨gl, 0, none⟩ = some (.int .i64 n) := (blk_cell KL.out 0).trans rfl
  have kl1 : wd.cell? ⟨gl, 1, none⟩ = some (.slice A l.length c) := (blk_cell KL.out 1).trans rfl
  have kz0 : wd.cell? ⟨gz, 0, none⟩ = some (.bool true) := (blk_cell KZ.out 0).trans rfl
  have kz1 : wd.cell? ⟨gz, 1, none⟩ = some (.slice A1 ss.length c1) := (blk_cell KZ.out 1).trans rfl
  have kz2 : wd.cell? ⟨gz, 2, none⟩ = some (.slice A2 dd.length c2) := (blk_cell KZ.out 2).trans rfl
  have ke0 : wd.cell? ⟨ge, 0, none⟩ = some (.int .i64 op) := (blk_cell KE.out 0).trans rfl
  have ke1 : wd.cell? ⟨ge, 1, none⟩ = some (.int .i64 of) := (blk_cell KE.out 1).trans rfl
  have ke2 : wd.cell? ⟨ge, 2, none⟩ = some (.int .i64 dir) := (blk_cell KE.out 2).trans rfl
  have kd0 : wd.cell? ⟨gd, 0, none⟩ = some (.int .i64 0) := (blk_cell KD.out 0).trans rfl
  have kd1 : wd.cell? ⟨gd, 1, none⟩ = some (.bool false) := (blk_cell KD.out 1).trans rfl
  have kd2 : wd.cell? ⟨gd, 2, none⟩ = some (.slice none 0 0) := (blk_cell KD.out 2).trans rfl
  have kd3 : wd.cell? ⟨gd, 3, none⟩ = some (.slice none 0 0) := (blk_cell KD.out 3).trans rfl
  have zd0 := blk_frozen KD.out 0
  have zd1 := blk_frozen KD.out 1
  have zd2 := blk_frozen KD.out 2
  have zd3 := blk_frozen KD.out 3
  go_upto_region 4 with (first | (go_at_call 56; refine (sst_ok HST.out (Kd.C_below HR.out BB.out) hc (Kd.C_below HR1.out BB.out) hc1 (Kd.C_below HR2.out BB.out) hc2).mono ?_; rintro e w1 ⟨rfl, hb⟩; have KL := Aside0.mk (blk_below KL.out hb); have KZ := Aside0.mk (blk_below KZ.out hb); have KE := Aside0.mk (blk_below KE.out hb); have KD := Aside0.mk (blk_below KD.out hb); have BB := Aside0.mk (below_step BB.out hb); clear hb; have kl0 : w1.cell? ⟨gl, 0, none⟩ = some (.int .i64 n) := (blk_cell KL.out 0).trans rfl; have kl1 : w1.cell? ⟨gl, 1, none⟩ = some (.slice A l.length c) := (blk_cell KL.out 1).trans rfl; have kz0 : w1.cell? ⟨gz, 0, none⟩ = some (.bool true) := (blk_cell KZ.out 0).trans rfl; have kz1 : w1.cell? ⟨gz, 1, none⟩ = some (.slice A1 ss.length c1) := (blk_cell KZ.out 1).trans rfl; have kz2 : w1.cell? ⟨gz, 2, none⟩ = some (.slice A2 dd.length c2) := (blk_cell KZ.out 2).trans rfl; have ke0 : w1.cell? ⟨ge, 0, none⟩ = some (.int .i64 op) := (blk_cell KE.out 0).trans rfl; have ke1 : w1.cell? ⟨ge, 1, none⟩ = some (.int .i64 of) := (blk_cell KE.out 1).trans rfl; have ke2 : w1.cell? ⟨ge, 2, none⟩ = some (.int .i64 dir) := (blk_cell KE.out 2).trans rfl; have kd0 : w1.cell? ⟨gd, 0, none⟩ = some (.int .i64 0) := (blk_cell KD.out 0).trans rfl; have kd1 : w1.cell? ⟨gd, 1, none⟩ = some (.bool false) := (blk_cell KD.out 1).trans rfl; have kd2 : w1.cell? ⟨gd, 2, none⟩ = some (.slice none 0 0) := (blk_cell KD.out 2).trans rfl; have kd3 : w1.cell? ⟨gd, 3, none⟩ = some (.slice none 0 0) := (blk_cell KD.out 3).trans rfl; have zd0 := blk_frozen KD.out 0; have zd1 := blk_frozen KD.out 1; have zd2 := blk_frozen KD.out 2; have zd3 := blk_frozen KD.out 3) | (go_at_call 34; refine (sev_at op of dir HEV.out (Kd.C_below HR.out BB.out) hc).mono ?_; rintro e w2 ⟨rfl, hb⟩; have KL := Aside0.mk (blk_below KL.out hb); have KZ := Aside0.mk (blk_below KZ.out hb); have KE := Aside0.mk (blk_below KE.out hb); have KD := Aside0.mk (blk_below KD.out hb); have BB := Aside0.mk (below_step BB.out hb); clear hb; have kl0 : w2.cell? ⟨gl, 0, none⟩ = some (.int .i64 n) := (blk_cell KL.out 0).trans rfl; have kl1 : w2.cell? ⟨gl, 1, none⟩ = some (.slice A l.length c) := (blk_cell KL.out 1).trans rfl; have kz0 : w2.cell? ⟨gz, 0, none⟩ = some (.bool true) := (blk_cell KZ.out 0).trans rfl; have kz1 : w2.cell? ⟨gz, 1, none⟩ = some (.slice A1 ss.length c1) := (blk_cell KZ.out 1).trans rfl; have kz2 : w2.cell? ⟨gz, 2, none⟩ = some (.slice A2 dd.length c2) := (blk_cell KZ.out 2).trans rfl; have ke0 : w2.cell? ⟨ge, 0, none⟩ = some (.int .i64 op) := (blk_cell KE.out 0).trans rfl; have ke1 : w2.cell? ⟨ge, 1, none⟩ = some (.int .i64 of) := (blk_cell KE.out 1).trans rfl; have ke2 : w2.cell? ⟨ge, 2, none⟩ = some (.int .i64 dir) := (blk_cell KE.out 2).trans rfl; have kd0 : w2.cell? ⟨gd, 0, none⟩ = some (.int .i64 0) := (blk_cell KD.out 0).trans rfl; have kd1 : w2.cell? ⟨gd, 1, none⟩ = some (.bool false) := (blk_cell KD.out 1).trans rfl; have kd2 : w2.cell? ⟨gd, 2, none⟩ = some (.slice none 0 0) := (blk_cell KD.out 2).trans rfl; have kd3 : w2.cell? ⟨gd, 3, none⟩ = some (.slice none 0 0) := (blk_cell KD.out 3).trans rfl; have zd0 := blk_frozen KD.out 0; have zd1 := blk_frozen KD.out 1; have zd2 := blk_frozen KD.out 2; have zd3 := blk_frozen KD.out 3) | (go_at_call 93; refine (copy_is (Kd.C_below HR1.out BB.out) hc1 (Kd.C_below HR2.out BB.out) hc2 hs hd).mono ?_; rintro e w3 ⟨v1, v2, rfl, hR1, hR2, hb⟩; have H1 := Aside0.mk (Kd.R_lower hR1 BB.out.size); have H2 := Aside0.mk (Kd.R_lower hR2 BB.out.size); clear hR1 hR2; obtain ⟨gr, cr, e1, _, _, _⟩ := Kd.R_form H1.out hpos; obtain ⟨Ad, cd, e2⟩ := Kd.R_slice H2.out; subst e1 e2; have KL := Aside0.mk (blk_below KL.out hb); have KZ := Aside0.mk (blk_below KZ.out hb); have KE := Aside0.mk (blk_below KE.out hb); have KD := Aside0.mk (blk_below KD.out hb); have BB := Aside0.mk (below_step BB.out hb); clear hb; have kl0 : w3.cell? ⟨gl, 0, none⟩ = some (.int .i64 n) := (blk_cell KL.out 0).trans rfl; have kl1 : w3.cell? ⟨gl, 1, none⟩ = some (.slice A l.length c) := (blk_cell KL.out 1).trans rfl; have kz0 : w3.cell? ⟨gz, 0, none⟩ = some (.bool true) := (blk_cell KZ.out 0).trans rfl; have kz1 : w3.cell? ⟨gz, 1, none⟩ = some (.slice A1 ss.length c1) := (blk_cell KZ.out 1).trans rfl; have kz2 : w3.cell? ⟨gz, 2, none⟩ = some (.slice A2 dd.length c2) := (blk_cell KZ.out 2).trans rfl; have ke0 : w3.cell? ⟨ge, 0, none⟩ = some (.int .i64 op) := (blk_cell KE.out 0).trans rfl; have ke1 : w3.cell? ⟨ge, 1, none⟩ = some (.int .i64 of) := (blk_cell KE.out 1).trans rfl; have ke2 : w3.cell? ⟨ge, 2, none⟩ = some (.int .i64 dir) := (blk_cell KE.out 2).trans rfl; have kd0 : w3.cell? ⟨gd, 0, none⟩ = some (.int .i64 0) := (blk_cell KD.out 0).trans rfl; have kd1 : w3.cell? ⟨gd, 1, none⟩ = some (.bool false) := (blk_cell KD.out 1).trans rfl; have kd2 : w3.cell? ⟨gd, 2, none⟩ = some (.slice none 0 0) := (blk_cell KD.out 2).trans rfl; have kd3 : w3.cell? ⟨gd, 3, none⟩ = some (.slice none 0 0) := (blk_cell KD.out 3).trans rfl; have zd0 := blk_frozen KD.out 0; have zd1 := blk_frozen KD.out 1; have zd2 := blk_frozen KD.out 2; have zd3 := blk_frozen KD.out 3) | ((with_reducible refine gate_dst (N := 7) rfl ?_); refine box_event ?hg (N := 7) ?hd (cs := #[.bool false, .slice none 0 0, .slice none 0 0]) (t := 46) ?hr ?_; (case hd => rfl); (case hg => rfl); (case hr => first | (go_simp; done) | (go_simp; rfl)); intro go eo wo ko bo; have KO := Aside0.mk ko; have EO := Aside0.mk eo; have BO := Aside0.mk bo; have zo0 := blk_frozen ko 0; have zo1 := blk_frozen ko 1; have zo2 := blk_frozen ko 2; have ko0 := (blk_cell ko 0).trans (show _ = some (Value.bool false) from rfl); have ko1 := (blk_cell ko 1).trans (show _ = some (Value.slice none 0 0) from rfl); have ko2 := (blk_cell ko 2).trans (show _ = some (Value.slice none 0 0) from rfl); have ke0 := pw_cell_below bo ke0; clear bo eo ko))
  have KX := Aside0.mk (blk_put (blk_put (blk_put KO.out 0 (.bool true) rfl) 1 (.slice (some ⟨gr, 0, none⟩) ss.length cr) rfl) 2 (.slice Ad dd.length cd) rfl)
  have BX := Aside0.mk (below_set (j := 2) (v := (.slice Ad dd.length cd)) (below_set (j := 1) (v := (.slice (some ⟨gr, 0, none⟩) ss.length cr)) (below_set (j := 0) (v := .bool true) BO.out (Nat.le_of_eq EO.out.symm)) (Nat.le_of_eq EO.out.symm)) (Nat.le_of_eq EO.out.symm))
  have GO := Aside0.mk (show w.heap.size ≤ go by rw [EO.out]; exact BB.out.size)
  clear kl0 kl1 kz0 kz1 kz2 ke0 ke1 ke2 kd0 kd1 kd2 kd3 zd0 zd1 zd2 zd3 zo0 zo1 zo2 ko0 ko1 ko2
  have SA := Aside0.mk (show SpSt w (((wo.setCell ⟨go, 0, none⟩ (.bool true)).setCell ⟨go, 1, none⟩ (.slice (some ⟨gr, 0, none⟩) ss.length cr)).setCell ⟨go, 2, none⟩ (.slice Ad dd.length cd)) gl gz go ge gd [.int .i64 n, .slice A l.length c] [.bool true, .slice A1 ss.length c1, .slice A2 dd.length c2] [.bool true, .slice (some ⟨gr, 0, none⟩) ss.length cr, .slice Ad dd.length cd] [.int .i64 op, .int .i64 of, .int .i64 dir] [.int .i64 0, .bool false, .slice none 0 0, .slice none 0 0] (.slice (some ⟨gr, 0, none⟩) ss.length cr) (.slice Ad dd.length cd) ss dd from ⟨⟨blk_below KL.out BX.out, KX.out, blk_below KE.out BX.out, blk_below KD.out BX.out, R_up H1.out BX.out, R_up H2.out BX.out, below_step BB.out BX.out, GL.out, GO.out, GE.out, GD.out⟩, blk_below KZ.out BX.out⟩)
  clear KL KZ KE KD BB H1 H2 KO BO EO KX BX
  generalize (((wo.setCell ⟨go, 0, none⟩ (.bool true)).setCell ⟨go, 1, none⟩ (.slice (some ⟨gr, 0, none⟩) ss.length cr)).setCell ⟨go, 2, none⟩ (.slice Ad dd.length cd)) = wa at SA ⊢
  have kge0 : wa.cell? ⟨ge, 0, none⟩ = some (.int .i64 op) := (blk_cell SA.out.D.he 0).trans rfl
  go_upto_block 0 with fail
  clear kge0
  go_cut [8] from 9 to 126 (fun v8 wx => v8 = .int .i64 (doCode l ss dd op of) ∧ Aside0 (SpSt w wx gl gz go ge gd [.int .i64 n, .slice A l.length c] [.bool true, .slice A1 ss.length c1, .slice A2 dd.length c2] [.bool true, .slice (some ⟨gr, 0, none⟩) ss.length cr, .slice Ad dd.length cd] [.int .i64 op, .int .i64 of, .int .i64 dir] [.int .i64 0, .bool false, .slice none 0 0, .slice none 0 0] (.slice (some ⟨gr, 0, none⟩) ss.length cr) (.slice Ad dd.length cd) (midSecs2 l ss dd op of dir) (doDead l ss dd op of)))
  case first =>
    obtain ⟨hl, hns, hnd, hln⟩ := HN.out
    have HL2 := Aside0.mk hln
    rcases evOk_cases HEV.out with ⟨hop, ho0, ho1, hdir⟩ | ⟨hop, ho0, ho1⟩ | ⟨rfl, ho0, ho1⟩
    · skip
      have lr := lay_rd hl of ho0 ho1
      have ho2 := ho1
      rw [← hnd] at ho1
      obtain ⟨gb, cb, e, _, _, _⟩ := Kd.R_form SA.out.D.H2 (show 0 < dd.length by omega)
      cases e
      obtain ⟨x0, xf⟩ := bool_at SA.out.D.H2 of ho0 ho1
      obtain ⟨ad, e, y0, y1⟩ := at_T88 HR.out of ho0 ho2
      subst e
      obtain ⟨a2, e, -⟩ := HR2.out.2.2 (show 0 < dd.length by omega)
      subst e
      have u0 := Kd.foot_bool HR2.out of ho0 ho1
      have U0 := Aside0.mk u0
      have LR0 := Aside0.mk (show (rd_T88 l of).f0 < (ss.length : Int) by omega)
      have LR1 := Aside0.mk (show (rd_T88 l of).f1 < (ss.length : Int) by omega)
      clear lr hl hns hnd hln u0
      have Y0 := Aside0.mk y0
      have Y1 := Aside0.mk y1
      clear y0 y1
      rcases hop with rfl | rfl
      · skip
        have kge0 : wa.cell? ⟨ge, 0, none⟩ = some (.int .i64 1) := (blk_cell SA.out.D.he 0).trans rfl
        have kge1 : wa.cell? ⟨ge, 1, none⟩ = some (.int .i64 of) := (blk_cell SA.out.D.he 1).trans rfl
        have kge2 : wa.cell? ⟨ge, 2, none⟩ = some (.int .i64 dir) := (blk_cell SA.out.D.he 2).trans rfl
        have kgo0 : wa.cell? ⟨go, 0, none⟩ = some (.bool true) := (blk_cell SA.out.D.hs 0).trans rfl
        have kgo1 : wa.cell? ⟨go, 1, none⟩ = some (.slice (some ⟨gr, 0, none⟩) ss.length cr) := (blk_cell SA.out.D.hs 1).trans rfl
        have kgo2 : wa.cell? ⟨go, 2, none⟩ = some (.slice (some ⟨gb, 0, none⟩) dd.length cd) := (blk_cell SA.out.D.hs 2).trans rfl
        have kgz0 : wa.cell? ⟨gz, 0, none⟩ = some (.bool true) := (blk_cell SA.out.hz 0).trans rfl
        have kgz1 : wa.cell? ⟨gz, 1, none⟩ = some (.slice A1 ss.length c1) := (blk_cell SA.out.hz 1).trans rfl
        have kgz2 : wa.cell? ⟨gz, 2, none⟩ = some (.slice (some a2) dd.length c2) := (blk_cell SA.out.hz 2).trans rfl
        have kgl0 : wa.cell? ⟨gl, 0, none⟩ = some (.int .i64 n) := (blk_cell SA.out.D.hl 0).trans rfl
        have kgl1 : wa.cell? ⟨gl, 1, none⟩ = some (.slice (some ad) l.length c) := (blk_cell SA.out.D.hl 1).trans rfl
        have y0 := pw_cell_below SA.out.D.hB Y0.out
        have y1 := pw_cell_below SA.out.D.hB Y1.out
        go_upto_region 9 with (first | ((with_reducible refine gate_dst (N := 9) rfl ?_); refine box_event ?hg (N := 9) ?hd (cs := #[.int .i64 0, .int .i64 0]) (t := 88) ?hr ?_; (case hd => rfl); (case hg => rfl); (case hr => first | (go_simp; done) | (go_simp; rfl)); intro gc ec wb kc bc; have KC := Aside0.mk kc; have EC := Aside0.mk ec; have BC := Aside0.mk bc; have zc0 := blk_frozen kc 0; have zc1 := blk_frozen kc 1; have kc0 := (blk_cell kc 0).trans (show _ = some (Value.int .i64 0) from rfl); have kc1 := (blk_cell kc 1).trans (show _ = some (Value.int .i64 0) from rfl); clear kc ec bc))
        have KX := Aside0.mk (blk_put (blk_put KC.out 0 (.int .i64 (rd_T88 l of).f0) rfl) 1 (.int .i64 (rd_T88 l of).f1) rfl)
        have BX := Aside0.mk (below_set (j := 1) (v := (.int .i64 (rd_T88 l of).f1)) (below_set (j := 0) (v := (.int .i64 (rd_T88 l of).f0)) BC.out (Nat.le_of_eq EC.out.symm)) (Nat.le_of_eq EC.out.symm))
        have S1 := Aside0.mk (SA.out.up BX.out)
        clear kge0 kge1 kge2 kgo0 kgo1 kgo2 kgz0 kgz1 kgz2 kgl0 kgl1
        clear SA y0 y1 KC BC EC zc0 zc1 kc0 kc1 BX x0 xf
        generalize (wb.setCell ⟨gc, 0, none⟩ (.int .i64 (rd_T88 l of).f0)).setCell ⟨gc, 1, none⟩ (.int .i64 (rd_T88 l of).f1) = w1 at S1 KX ⊢
        have kge0 : w1.cell? ⟨ge, 0, none⟩ = some (.int .i64 1) := (blk_cell S1.out.D.he 0).trans rfl
        have kge1 : w1.cell? ⟨ge, 1, none⟩ = some (.int .i64 of) := (blk_cell S1.out.D.he 1).trans rfl
        have kge2 : w1.cell? ⟨ge, 2, none⟩ = some (.int .i64 dir) := (blk_cell S1.out.D.he 2).trans rfl
        have kgo0 : w1.cell? ⟨go, 0, none⟩ = some (.bool true) := (blk_cell S1.out.D.hs 0).trans rfl
        have kgo1 : w1.cell? ⟨go, 1, none⟩ = some (.slice (some ⟨gr, 0, none⟩) ss.length cr) := (blk_cell S1.out.D.hs 1).trans rfl
        have kgo2 : w1.cell? ⟨go, 2, none⟩ = some (.slice (some ⟨gb, 0, none⟩) dd.length cd) := (blk_cell S1.out.D.hs 2).trans rfl
        have kgz0 : w1.cell? ⟨gz, 0, none⟩ = some (.bool true) := (blk_cell S1.out.hz 0).trans rfl
        have kgz1 : w1.cell? ⟨gz, 1, none⟩ = some (.slice A1 ss.length c1) := (blk_cell S1.out.hz 1).trans rfl
        have kgz2 : w1.cell? ⟨gz, 2, none⟩ = some (.slice (some a2) dd.length c2) := (blk_cell S1.out.hz 2).trans rfl
        have kgl0 : w1.cell? ⟨gl, 0, none⟩ = some (.int .i64 n) := (blk_cell S1.out.D.hl 0).trans rfl
        have kgl1 : w1.cell? ⟨gl, 1, none⟩ = some (.slice (some ad) l.length c) := (blk_cell S1.out.D.hl 1).trans rfl
        have kc0 : w1.cell? ⟨gc, 0, none⟩ = some (.int .i64 (rd_T88 l of).f0) := (blk_cell KX.out 0).trans rfl
        have kc1 : w1.cell? ⟨gc, 1, none⟩ = some (.int .i64 (rd_T88 l of).f1) := (blk_cell KX.out 1).trans rfl
        have u0 := pw_cell_below S1.out.D.hB U0.out
        rcases Bool.eq_false_or_eq_true (rdOf false dd of) with hdo | hdo
        · rw [hdo] at u0
          have HC := Aside0.mk (show doCode l ss dd 1 of = 2 by unfold doCode; rw [if_pos (by decide), if_pos hdo])
          clear hdo
          go_wp2_with fail
          go_meet
          case rel => exact ⟨by rw [HC.out], ⟨by unfold midSecs2 doDead; rw [HC.out]; exact S1.out⟩⟩
        · rw [hdo] at u0
          have HC := Aside0.mk (show doCode l ss dd 1 of = 0 by unfold doCode; rw [if_pos (by decide), hdo]; rfl)
          clear hdo
          rcases hdir with rfl | rfl
          · skip
            go_upto_region 18 with (go_at_call 118; refine (out_any _ true go gr ss.length cr _ _ _ _ _ LR0.out S1.out.D.hs S1.out.D.H1).mono ?_; rintro e w2 ⟨rfl, hR, hg⟩; have S2 := Aside0.mk (S1.out.sec hR hg); clear hR hg)
            go_wp2_with (go_at_call 118; refine (in_any _ true go gr ss.length cr _ _ _ _ _ LR1.out S2.out.D.hs S2.out.D.H1).mono ?_; rintro e w3 ⟨rfl, hR, hg⟩; have S3 := Aside0.mk (S2.out.sec hR hg); clear hR hg)
            go_meet
            case rel => exact ⟨by rw [HC.out], ⟨by unfold midSecs2 doDead; rw [if_pos HC.out, if_pos HC.out]; exact S3.out⟩⟩
          · skip
            go_upto_region 18 with (go_at_call 118; refine (out_any _ true go gr ss.length cr _ _ _ _ _ LR1.out S1.out.D.hs S1.out.D.H1).mono ?_; rintro e w2 ⟨rfl, hR, hg⟩; have S2 := Aside0.mk (S1.out.sec hR hg); clear hR hg)
            go_wp2_with (go_at_call 118; refine (in_any _ true go gr ss.length cr _ _ _ _ _ LR0.out S2.out.D.hs S2.out.D.H1).mono ?_; rintro e w3 ⟨rfl, hR, hg⟩; have S3 := Aside0.mk (S2.out.sec hR hg); clear hR hg)
            go_meet
            case rel => exact ⟨by rw [HC.out], ⟨by unfold midSecs2 doDead; rw [if_pos HC.out, if_pos HC.out]; exact S3.out⟩⟩
      · skip
        have kge0 : wa.cell? ⟨ge, 0, none⟩ = some (.int .i64 2) := (blk_cell SA.out.D.he 0).trans rfl
        have kge1 : wa.cell? ⟨ge, 1, none⟩ = some (.int .i64 of) := (blk_cell SA.out.D.he 1).trans rfl
        have kge2 : wa.cell? ⟨ge, 2, none⟩ = some (.int .i64 dir) := (blk_cell SA.out.D.he 2).trans rfl
        have kgo0 : wa.cell? ⟨go, 0, none⟩ = some (.bool true) := (blk_cell SA.out.D.hs 0).trans rfl
        have kgo1 : wa.cell? ⟨go, 1, none⟩ = some (.slice (some ⟨gr, 0, none⟩) ss.length cr) := (blk_cell SA.out.D.hs 1).trans rfl
        have kgo2 : wa.cell? ⟨go, 2, none⟩ = some (.slice (some ⟨gb, 0, none⟩) dd.length cd) := (blk_cell SA.out.D.hs 2).trans rfl
        have kgz0 : wa.cell? ⟨gz, 0, none⟩ = some (.bool true) := (blk_cell SA.out.hz 0).trans rfl
        have kgz1 : wa.cell? ⟨gz, 1, none⟩ = some (.slice A1 ss.length c1) := (blk_cell SA.out.hz 1).trans rfl
        have kgz2 : wa.cell? ⟨gz, 2, none⟩ = some (.slice (some a2) dd.length c2) := (blk_cell SA.out.hz 2).trans rfl
        have kgl0 : wa.cell? ⟨gl, 0, none⟩ = some (.int .i64 n) := (blk_cell SA.out.D.hl 0).trans rfl
        have kgl1 : wa.cell? ⟨gl, 1, none⟩ = some (.slice (some ad) l.length c) := (blk_cell SA.out.D.hl 1).trans rfl
        have y0 := pw_cell_below SA.out.D.hB Y0.out
        have y1 := pw_cell_below SA.out.D.hB Y1.out
        go_upto_region 9 with (first | ((with_reducible refine gate_dst (N := 9) rfl ?_); refine box_event ?hg (N := 9) ?hd (cs := #[.int .i64 0, .int .i64 0]) (t := 88) ?hr ?_; (case hd => rfl); (case hg => rfl); (case hr => first | (go_simp; done) | (go_simp; rfl)); intro gc ec wb kc bc; have KC := Aside0.mk kc; have EC := Aside0.mk ec; have BC := Aside0.mk bc; have zc0 := blk_frozen kc 0; have zc1 := blk_frozen kc 1; have kc0 := (blk_cell kc 0).trans (show _ = some (Value.int .i64 0) from rfl); have kc1 := (blk_cell kc 1).trans (show _ = some (Value.int .i64 0) from rfl); clear kc ec bc))
        have KX := Aside0.mk (blk_put (blk_put KC.out 0 (.int .i64 (rd_T88 l of).f0) rfl) 1 (.int .i64 (rd_T88 l of).f1) rfl)
        have BX := Aside0.mk (below_set (j := 1) (v := (.int .i64 (rd_T88 l of).f1)) (below_set (j := 0) (v := (.int .i64 (rd_T88 l of).f0)) BC.out (Nat.le_of_eq EC.out.symm)) (Nat.le_of_eq EC.out.symm))
        have S1 := Aside0.mk (SA.out.up BX.out)
        clear kge0 kge1 kge2 kgo0 kgo1 kgo2 kgz0 kgz1 kgz2 kgl0 kgl1
        clear SA y0 y1 KC BC EC zc0 zc1 kc0 kc1 BX x0 xf
        generalize (wb.setCell ⟨gc, 0, none⟩ (.int .i64 (rd_T88 l of).f0)).setCell ⟨gc, 1, none⟩ (.int .i64 (rd_T88 l of).f1) = w1 at S1 KX ⊢
        have kge0 : w1.cell? ⟨ge, 0, none⟩ = some (.int .i64 2) := (blk_cell S1.out.D.he 0).trans rfl
        have kge1 : w1.cell? ⟨ge, 1, none⟩ = some (.int .i64 of) := (blk_cell S1.out.D.he 1).trans rfl
        have kge2 : w1.cell? ⟨ge, 2, none⟩ = some (.int .i64 dir) := (blk_cell S1.out.D.he 2).trans rfl
        have kgo0 : w1.cell? ⟨go, 0, none⟩ = some (.bool true) := (blk_cell S1.out.D.hs 0).trans rfl
        have kgo1 : w1.cell? ⟨go, 1, none⟩ = some (.slice (some ⟨gr, 0, none⟩) ss.length cr) := (blk_cell S1.out.D.hs 1).trans rfl
        have kgo2 : w1.cell? ⟨go, 2, none⟩ = some (.slice (some ⟨gb, 0, none⟩) dd.length cd) := (blk_cell S1.out.D.hs 2).trans rfl
        have kgz0 : w1.cell? ⟨gz, 0, none⟩ = some (.bool true) := (blk_cell S1.out.hz 0).trans rfl
        have kgz1 : w1.cell? ⟨gz, 1, none⟩ = some (.slice A1 ss.length c1) := (blk_cell S1.out.hz 1).trans rfl
        have kgz2 : w1.cell? ⟨gz, 2, none⟩ = some (.slice (some a2) dd.length c2) := (blk_cell S1.out.hz 2).trans rfl
        have kgl0 : w1.cell? ⟨gl, 0, none⟩ = some (.int .i64 n) := (blk_cell S1.out.D.hl 0).trans rfl
        have kgl1 : w1.cell? ⟨gl, 1, none⟩ = some (.slice (some ad) l.length c) := (blk_cell S1.out.D.hl 1).trans rfl
        have kc0 : w1.cell? ⟨gc, 0, none⟩ = some (.int .i64 (rd_T88 l of).f0) := (blk_cell KX.out 0).trans rfl
        have kc1 : w1.cell? ⟨gc, 1, none⟩ = some (.int .i64 (rd_T88 l of).f1) := (blk_cell KX.out 1).trans rfl
        have u0 := pw_cell_below S1.out.D.hB U0.out
        rcases Bool.eq_false_or_eq_true (rdOf false dd of) with hdo | hdo
        · rw [hdo] at u0
          have HC := Aside0.mk (show doCode l ss dd 2 of = 2 by unfold doCode; rw [if_pos (by decide), if_pos hdo])
          clear hdo
          go_wp2_with fail
          go_meet
          case rel => exact ⟨by rw [HC.out], ⟨by unfold midSecs2 doDead; rw [HC.out]; exact S1.out⟩⟩
        · rw [hdo] at u0
          have HC := Aside0.mk (show doCode l ss dd 2 of = 0 by unfold doCode; rw [if_pos (by decide), hdo]; rfl)
          clear hdo
          rcases hdir with rfl | rfl
          · skip
            go_wp2_with (go_at_call 118; refine (in_any _ true go gr ss.length cr _ _ _ _ _ LR1.out S1.out.D.hs S1.out.D.H1).mono ?_; rintro e w3 ⟨rfl, hR, hg⟩; have S3 := Aside0.mk (S1.out.sec hR hg); clear hR hg)
            go_meet
            case rel => exact ⟨by rw [HC.out], ⟨by unfold midSecs2 doDead; rw [if_pos HC.out, if_pos HC.out]; exact S3.out⟩⟩
          · skip
            go_wp2_with (go_at_call 118; refine (in_any _ true go gr ss.length cr _ _ _ _ _ LR0.out S1.out.D.hs S1.out.D.H1).mono ?_; rintro e w3 ⟨rfl, hR, hg⟩; have S3 := Aside0.mk (S1.out.sec hR hg); clear hR hg)
            go_meet
            case rel => exact ⟨by rw [HC.out], ⟨by unfold midSecs2 doDead; rw [if_pos HC.out, if_pos HC.out]; exact S3.out⟩⟩
    · skip
      have lr := lay_rd hl of ho0 ho1
      have ho2 := ho1
      rw [← hnd] at ho1
      obtain ⟨gb, cb, e, _, _, _⟩ := Kd.R_form SA.out.D.H2 (show 0 < dd.length by omega)
      cases e
      obtain ⟨x0, xf⟩ := bool_at SA.out.D.H2 of ho0 ho1
      obtain ⟨ad, e, y0, y1⟩ := at_T88 HR.out of ho0 ho2
      subst e
      obtain ⟨a2, e, -⟩ := HR2.out.2.2 (show 0 < dd.length by omega)
      subst e
      have u0 := Kd.foot_bool HR2.out of ho0 ho1
      have U0 := Aside0.mk u0
      have LR0 := Aside0.mk (show (rd_T88 l of).f0 < (ss.length : Int) by omega)
      have LR1 := Aside0.mk (show (rd_T88 l of).f1 < (ss.length : Int) by omega)
      clear lr hl hns hnd hln u0
      have Y0 := Aside0.mk y0
      have Y1 := Aside0.mk y1
      clear y0 y1
      have HC := Aside0.mk (show doCode l ss dd op of = 0 by unfold doCode; rw [if_neg (by omega), if_neg (by omega)])
      have HM := Aside0.mk (show midSecs2 l ss dd op of dir = midSecs l ss op of dir by unfold midSecs2; rw [if_pos HC.out])
      have HD := Aside0.mk (show doDead l ss dd op of = midDead dd op of by unfold doDead; rw [if_pos HC.out])
      rcases hop with rfl | rfl
      · skip
        have kge0 : wa.cell? ⟨ge, 0, none⟩ = some (.int .i64 3) := (blk_cell SA.out.D.he 0).trans rfl
        have kge1 : wa.cell? ⟨ge, 1, none⟩ = some (.int .i64 of) := (blk_cell SA.out.D.he 1).trans rfl
        have kge2 : wa.cell? ⟨ge, 2, none⟩ = some (.int .i64 dir) := (blk_cell SA.out.D.he 2).trans rfl
        have kgo0 : wa.cell? ⟨go, 0, none⟩ = some (.bool true) := (blk_cell SA.out.D.hs 0).trans rfl
        have kgo1 : wa.cell? ⟨go, 1, none⟩ = some (.slice (some ⟨gr, 0, none⟩) ss.length cr) := (blk_cell SA.out.D.hs 1).trans rfl
        have kgo2 : wa.cell? ⟨go, 2, none⟩ = some (.slice (some ⟨gb, 0, none⟩) dd.length cd) := (blk_cell SA.out.D.hs 2).trans rfl
        have kgz0 : wa.cell? ⟨gz, 0, none⟩ = some (.bool true) := (blk_cell SA.out.hz 0).trans rfl
        have kgz1 : wa.cell? ⟨gz, 1, none⟩ = some (.slice A1 ss.length c1) := (blk_cell SA.out.hz 1).trans rfl
        have kgz2 : wa.cell? ⟨gz, 2, none⟩ = some (.slice (some a2) dd.length c2) := (blk_cell SA.out.hz 2).trans rfl
        have kgl0 : wa.cell? ⟨gl, 0, none⟩ = some (.int .i64 n) := (blk_cell SA.out.D.hl 0).trans rfl
        have kgl1 : wa.cell? ⟨gl, 1, none⟩ = some (.slice (some ad) l.length c) := (blk_cell SA.out.D.hl 1).trans rfl
        go_upto_region 21 with fail
        have S1 := Aside0.mk (SA.out.dead of true)
        clear kge0 kge1 kge2 kgo0 kgo1 kgo2 kgz0 kgz1 kgz2 kgl0 kgl1
        clear SA x0 xf
        generalize wa.setCell ⟨gb, of.toNat, none⟩ (.bool true) = w1 at S1 ⊢
        have kge1 : w1.cell? ⟨ge, 1, none⟩ = some (.int .i64 of) := (blk_cell S1.out.D.he 1).trans rfl
        have kgl1 : w1.cell? ⟨gl, 1, none⟩ = some (.slice (some ad) l.length c) := (blk_cell S1.out.D.hl 1).trans rfl
        have y0 := pw_cell_below S1.out.D.hB Y0.out
        have y1 := pw_cell_below S1.out.D.hB Y1.out
        go_region_held3 (fun w' => w'.cell? ⟨gl, 1, none⟩ = some (.slice (some ad) l.length c) ∧ w'.cell? ⟨ge, 1, none⟩ = some (.int .i64 of) ∧ w'.cell? (ad.add (of.toNat * 2)) = some (.int .i64 (rd_T88 l of).f0) ∧ w'.cell? ⟨(ad.add (of.toNat * 2)).block, (ad.add (of.toNat * 2)).off + 1, none⟩ = some (.int .i64 (rd_T88 l of).f1))
          (first | go_keep | (go_split_ands; (repeat' apply And.intro) <;> (refine pw_cell_below (below_alloc (Below.refl _ _) _) ?_; assumption)))
          (fail)
        have S2 := Aside0.mk (S1.out.up (below_drew1 (below_alloc (Below.refl w1.heap.size w1) (.cells #[.int .i64 (rd_T88 l of).f0, .int .i64 (rd_T88 l of).f1] 3))))
        have KS : Aside0 (((w1.alloc (.cells #[.int .i64 (rd_T88 l of).f0, .int .i64 (rd_T88 l of).f1] 3)).drew).heap[w1.heap.size]? = some (.cells #[.int .i64 (rd_T88 l of).f0, .int .i64 (rd_T88 l of).f1] 3 (0, 0))) := ⟨blk_drew (heap_alloc_new w1 _)⟩
        clear S1 kge1 kgl1 y0 y1
        generalize (w1.alloc (.cells #[.int .i64 (rd_T88 l of).f0, .int .i64 (rd_T88 l of).f1] 3)).drew = w2 at S2 KS ⊢
        generalize w1.heap.size = gq at KS ⊢
        go_wp2_with fail
        go_loopg [86] 2 (fun kq v w' => ∃ i : Int, v = .int .i64 i ∧ Aside0 ((i = 0 ∧ kq = 2) ∨ (i = 1 ∧ kq = 1) ∨ (i = 2 ∧ kq = 0)) ∧ Aside0 (w'.heap[gq]? = some (.cells #[.int .i64 (rd_T88 l of).f0, .int .i64 (rd_T88 l of).f1] 3 (0, 0))) ∧ Aside0 (SpSt w w' gl gz go ge gd [.int .i64 n, .slice (some ad) l.length c] [.bool true, .slice A1 ss.length c1, .slice (some a2) dd.length c2] [.bool true, .slice (some ⟨gr, 0, none⟩) ss.length cr, .slice (some ⟨gb, 0, none⟩) dd.length cd] [.int .i64 3, .int .i64 of, .int .i64 dir] [.int .i64 0, .bool false, .slice none 0 0, .slice none 0 0] (.slice (some ⟨gr, 0, none⟩) ss.length cr) (.slice (some ⟨gb, 0, none⟩) dd.length cd) (loseTo ss (rd_T88 l of).f0 (rd_T88 l of).f1 i.toNat) (dd.set of.toNat true)))
        case atStart => exact ⟨0, rfl, ⟨.inl ⟨rfl, rfl⟩⟩, KS, S2⟩
        case round =>
          clear S2 KS
          obtain ⟨i, rfl, HI, KS, SL⟩ := hrel
          rcases HI.out with ⟨rfl, rfl⟩ | ⟨rfl, rfl⟩ | ⟨rfl, rfl⟩
          · have kk : wr.cell? ⟨gq, 0, none⟩ = some (.int .i64 (rd_T88 l of).f0) := (blk_cell KS.out 0).trans rfl
            have kgo1 : wr.cell? ⟨go, 1, none⟩ = some (.slice (some ⟨gr, 0, none⟩) ss.length cr) := (blk_cell SL.out.D.hs 1).trans rfl
            by_cases h0 : (rd_T88 l of).f0 < 0
            · have h0b : decide ((rd_T88 l of).f0 ≥ 0) = false := decide_eq_false (by omega)
              have H0 := Aside0.mk h0
              clear h0
              go_wp2_with fail
              go_roundg 1
              case measure => omega
              case rel => exact ⟨1, rfl, ⟨.inr (.inl ⟨rfl, rfl⟩)⟩, KS, ⟨by rw [show (1 : Int).toNat = 1 from rfl, show loseTo ss _ _ 1 = loseTo ss _ _ 0 from if_pos H0.out]; exact SL.out⟩⟩
            · have h0b : decide ((rd_T88 l of).f0 ≥ 0) = true := decide_eq_true (by omega)
              have h1 : 0 ≤ (rd_T88 l of).f0 := by omega
              have h2 := LR0.out
              have H0 := Aside0.mk h0
              have H1 := Aside0.mk h1
              clear h0
              obtain ⟨z0, z1, z2, z3, z4, zf0, zf1, zf2, zf3, zf4⟩ := sec_at SL.out.D.H1 (rd_T88 l of).f0 h1 h2
              have hp1 := eq_true h1
              have hp2 := eq_true h2
              clear h1 h2 z0 z1 z3 z4 zf0 zf1 zf3 zf4
              go_wp2_with fail
              obtain ⟨hR, hg⟩ := (SecSt.start SL.out.D.H1 H1.out LR0.out).put2 H1.out LR0.out (u := true) rfl
              have S3 := Aside0.mk (SL.out.sec hR hg)
              have K3 := Aside0.mk (blk_grown KS.out hg (Kd.R_ne SL.out.D.H1 KS.out (by decide)))
              clear hR hg
              go_roundg 1
              case measure => omega
              case rel => exact ⟨1, rfl, ⟨.inr (.inl ⟨rfl, rfl⟩)⟩, K3, ⟨by rw [show (1 : Int).toNat = 1 from rfl, show loseTo ss (rd_T88 l of).f0 (rd_T88 l of).f1 1 = _ from if_neg (show ¬ (rd_T88 l of).f0 < 0 by have := H1.out; omega)]; exact S3.out⟩⟩
          · have kk : wr.cell? ⟨gq, 1, none⟩ = some (.int .i64 (rd_T88 l of).f1) := (blk_cell KS.out 1).trans rfl
            have kgo1 : wr.cell? ⟨go, 1, none⟩ = some (.slice (some ⟨gr, 0, none⟩) ss.length cr) := (blk_cell SL.out.D.hs 1).trans rfl
            by_cases h0 : (rd_T88 l of).f1 < 0
            · have h0b : decide ((rd_T88 l of).f1 ≥ 0) = false := decide_eq_false (by omega)
              have H0 := Aside0.mk h0
              clear h0
              go_wp2_with fail
              go_roundg 0
              case measure => omega
              case rel => exact ⟨2, rfl, ⟨.inr (.inr ⟨rfl, rfl⟩)⟩, KS, ⟨by rw [show (2 : Int).toNat = 2 from rfl, show loseTo ss (rd_T88 l of).f0 (rd_T88 l of).f1 2 = loseTo ss (rd_T88 l of).f0 (rd_T88 l of).f1 1 from if_pos H0.out]; exact SL.out⟩⟩
            · have h0b : decide ((rd_T88 l of).f1 ≥ 0) = true := decide_eq_true (by omega)
              have h1 : 0 ≤ (rd_T88 l of).f1 := by omega
              have h2 := LR1.out
              have H0 := Aside0.mk h0
              have H1 := Aside0.mk h1
              clear h0
              obtain ⟨z0, z1, z2, z3, z4, zf0, zf1, zf2, zf3, zf4⟩ := sec_at SL.out.D.H1 (rd_T88 l of).f1 h1 h2
              have hp1 := eq_true h1
              have hp2 := eq_true h2
              clear h1 h2 z0 z1 z3 z4 zf0 zf1 zf3 zf4
              go_wp2_with fail
              obtain ⟨hR, hg⟩ := (SecSt.start SL.out.D.H1 H1.out LR1.out).put2 H1.out LR1.out (u := true) rfl
              have S3 := Aside0.mk (SL.out.sec hR hg)
              have K3 := Aside0.mk (blk_grown KS.out hg (Kd.R_ne SL.out.D.H1 KS.out (by decide)))
              clear hR hg
              go_roundg 0
              case measure => omega
              case rel => exact ⟨2, rfl, ⟨.inr (.inr ⟨rfl, rfl⟩)⟩, K3, ⟨by rw [show (2 : Int).toNat = 2 from rfl, show loseTo ss (rd_T88 l of).f0 (rd_T88 l of).f1 2 = _ from if_neg (show ¬ (rd_T88 l of).f1 < 0 by have := H1.out; omega)]; exact S3.out⟩⟩
          · go_wp2_with fail
            go_meet
            case rel => exact ⟨by rw [HC.out], ⟨by rw [HM.out, HD.out]; exact SL.out⟩⟩
      · skip
        have kge0 : wa.cell? ⟨ge, 0, none⟩ = some (.int .i64 4) := (blk_cell SA.out.D.he 0).trans rfl
        have kge1 : wa.cell? ⟨ge, 1, none⟩ = some (.int .i64 of) := (blk_cell SA.out.D.he 1).trans rfl
        have kge2 : wa.cell? ⟨ge, 2, none⟩ = some (.int .i64 dir) := (blk_cell SA.out.D.he 2).trans rfl
        have kgo0 : wa.cell? ⟨go, 0, none⟩ = some (.bool true) := (blk_cell SA.out.D.hs 0).trans rfl
        have kgo1 : wa.cell? ⟨go, 1, none⟩ = some (.slice (some ⟨gr, 0, none⟩) ss.length cr) := (blk_cell SA.out.D.hs 1).trans rfl
        have kgo2 : wa.cell? ⟨go, 2, none⟩ = some (.slice (some ⟨gb, 0, none⟩) dd.length cd) := (blk_cell SA.out.D.hs 2).trans rfl
        have kgz0 : wa.cell? ⟨gz, 0, none⟩ = some (.bool true) := (blk_cell SA.out.hz 0).trans rfl
        have kgz1 : wa.cell? ⟨gz, 1, none⟩ = some (.slice A1 ss.length c1) := (blk_cell SA.out.hz 1).trans rfl
        have kgz2 : wa.cell? ⟨gz, 2, none⟩ = some (.slice (some a2) dd.length c2) := (blk_cell SA.out.hz 2).trans rfl
        have kgl0 : wa.cell? ⟨gl, 0, none⟩ = some (.int .i64 n) := (blk_cell SA.out.D.hl 0).trans rfl
        have kgl1 : wa.cell? ⟨gl, 1, none⟩ = some (.slice (some ad) l.length c) := (blk_cell SA.out.D.hl 1).trans rfl
        go_wp2_with fail
        go_meet
        case rel => exact ⟨by rw [HC.out], ⟨by rw [HM.out, HD.out]; exact SA.out.dead of false⟩⟩
    · rw [← hns] at ho1
      have HLL := Aside0.mk (show l.length ≤ 1048576 by omega)
      have HND := Aside0.mk hnd
      have HO0 := Aside0.mk ho0
      have HO1 := Aside0.mk ho1
      have HLY := Aside0.mk hl
      have HON := Aside0.mk (show of < n by omega)
      obtain ⟨a1, e, y0, y1, y2, y3, y4⟩ := at_T50 HR1.out of ho0 ho1
      subst e
      have Y4 := Aside0.mk y4
      clear y0 y1 y2 y3 y4 hl hns hnd hln
      have kge0 : wa.cell? ⟨ge, 0, none⟩ = some (.int .i64 5) := (blk_cell SA.out.D.he 0).trans rfl
      have kge1 : wa.cell? ⟨ge, 1, none⟩ = some (.int .i64 of) := (blk_cell SA.out.D.he 1).trans rfl
      have kge2 : wa.cell? ⟨ge, 2, none⟩ = some (.int .i64 dir) := (blk_cell SA.out.D.he 2).trans rfl
      have kgo0 : wa.cell? ⟨go, 0, none⟩ = some (.bool true) := (blk_cell SA.out.D.hs 0).trans rfl
      have kgo1 : wa.cell? ⟨go, 1, none⟩ = some (.slice (some ⟨gr, 0, none⟩) ss.length cr) := (blk_cell SA.out.D.hs 1).trans rfl
      have kgo2 : wa.cell? ⟨go, 2, none⟩ = some (.slice Ad dd.length cd) := (blk_cell SA.out.D.hs 2).trans rfl
      have kgz0 : wa.cell? ⟨gz, 0, none⟩ = some (.bool true) := (blk_cell SA.out.hz 0).trans rfl
      have kgz1 : wa.cell? ⟨gz, 1, none⟩ = some (.slice (some a1) ss.length c1) := (blk_cell SA.out.hz 1).trans rfl
      have kgz2 : wa.cell? ⟨gz, 2, none⟩ = some (.slice A2 dd.length c2) := (blk_cell SA.out.hz 2).trans rfl
      have kgl0 : wa.cell? ⟨gl, 0, none⟩ = some (.int .i64 n) := (blk_cell SA.out.D.hl 0).trans rfl
      have kgl1 : wa.cell? ⟨gl, 1, none⟩ = some (.slice A l.length c) := (blk_cell SA.out.D.hl 1).trans rfl
      rcases Bool.eq_false_or_eq_true (deadAt l dd of) with hdo | hdo
      · have HDO := Aside0.mk hdo
        have HC := Aside0.mk (show doCode l ss dd 5 of = 3 by unfold doCode; rw [if_neg (by decide), if_pos rfl, if_pos hdo])
        clear hdo
        go_wp2_with (go_at_call 114; refine (sdead_at of HDO.out (Kd.C_below HR.out SA.out.D.hB) hc (Kd.C_below HR2.out SA.out.D.hB) hc2 HLY.out HO0.out HON.out HND.out).mono ?_; rintro e w1 ⟨rfl, hb⟩; have S1 := Aside0.mk (SA.out.up hb); clear hb)
        go_meet
        case rel => exact ⟨by rw [HC.out], ⟨by unfold midSecs2 doDead; rw [HC.out]; exact S1.out⟩⟩
      · have HDO := Aside0.mk hdo
        clear hdo
        go_upto_region 32 with (go_at_call 114; refine (sdead_at of HDO.out (Kd.C_below HR.out SA.out.D.hB) hc (Kd.C_below HR2.out SA.out.D.hB) hc2 HLY.out HO0.out HON.out HND.out).mono ?_; rintro e w1 ⟨rfl, hb⟩; have S1 := Aside0.mk (SA.out.up hb); clear hb)
        clear kge0 kge1 kge2 kgo0 kgo1 kgo2 kgz0 kgz1 kgz2 kgl0 kgl1
        clear SA
        have kge0 : w1.cell? ⟨ge, 0, none⟩ = some (.int .i64 5) := (blk_cell S1.out.D.he 0).trans rfl
        have kge1 : w1.cell? ⟨ge, 1, none⟩ = some (.int .i64 of) := (blk_cell S1.out.D.he 1).trans rfl
        have kge2 : w1.cell? ⟨ge, 2, none⟩ = some (.int .i64 dir) := (blk_cell S1.out.D.he 2).trans rfl
        have kgo0 : w1.cell? ⟨go, 0, none⟩ = some (.bool true) := (blk_cell S1.out.D.hs 0).trans rfl
        have kgo1 : w1.cell? ⟨go, 1, none⟩ = some (.slice (some ⟨gr, 0, none⟩) ss.length cr) := (blk_cell S1.out.D.hs 1).trans rfl
        have kgo2 : w1.cell? ⟨go, 2, none⟩ = some (.slice Ad dd.length cd) := (blk_cell S1.out.D.hs 2).trans rfl
        have kgz0 : w1.cell? ⟨gz, 0, none⟩ = some (.bool true) := (blk_cell S1.out.hz 0).trans rfl
        have kgz1 : w1.cell? ⟨gz, 1, none⟩ = some (.slice (some a1) ss.length c1) := (blk_cell S1.out.hz 1).trans rfl
        have kgz2 : w1.cell? ⟨gz, 2, none⟩ = some (.slice A2 dd.length c2) := (blk_cell S1.out.hz 2).trans rfl
        have kgl0 : w1.cell? ⟨gl, 0, none⟩ = some (.int .i64 n) := (blk_cell S1.out.D.hl 0).trans rfl
        have kgl1 : w1.cell? ⟨gl, 1, none⟩ = some (.slice A l.length c) := (blk_cell S1.out.D.hl 1).trans rfl
        have y4 := pw_cell_below S1.out.D.hB Y4.out
        have ho0 := HO0.out
        have ho1 := HO1.out
        obtain ⟨z0, z1, z2, z3, z4, zf0, zf1, zf2, zf3, zf4⟩ := sec_at S1.out.D.H1 of ho0 ho1
        have hr4 : (rd_T50 ss of).f4 ≤ 1 := by have := secOk_range (HSE.out of.toNat (by omega)); rw [show ((of.toNat : Nat) : Int) = of by omega] at this; omega
        by_cases hla : (rd_T50 ss of).f4 = 1
        · have hla1 : decide ((rd_T50 ss of).f4 > 0) = true := decide_eq_true (by omega)
          have HC := Aside0.mk (show doCode l ss dd 5 of = 4 by unfold doCode; rw [if_neg (by decide), if_pos rfl, HDO.out, if_neg (by decide), if_pos hla])
          clear hla hr4
          go_wp2_with fail
          go_meet
          case rel => exact ⟨by rw [HC.out], ⟨by unfold midSecs2 doDead; rw [HC.out]; exact S1.out⟩⟩
        · have hla1 : decide ((rd_T50 ss of).f4 > 0) = false := decide_eq_false (by omega)
          have HC := Aside0.mk (show doCode l ss dd 5 of = 0 by unfold doCode; rw [if_neg (by decide), if_pos rfl, HDO.out, if_neg (by decide), if_neg hla])
          clear hla hr4
          go_wp2_with fail
          go_meet
          case rel =>
            obtain ⟨hR, hg⟩ := ((((SecSt.start S1.out.D.H1 HO0.out HO1.out).put0 HO0.out HO1.out (u := 0) rfl).put1 HO0.out HO1.out (u := 0) rfl).put2 HO0.out HO1.out (u := false) rfl |>.put3 HO0.out HO1.out (u := true) rfl).put4 HO0.out HO1.out (u := 0) rfl
            exact ⟨by rw [HC.out], ⟨by unfold midSecs2 doDead; rw [if_pos HC.out, if_pos HC.out]; exact S1.out.sec hR hg⟩⟩
  case rest =>
    obtain ⟨rfl, SM⟩ := hcut
    have HLM := Aside0.mk (midSecs2_length l ss dd op of dir)
    have HLD := Aside0.mk (doDead_length l ss dd op of)
    have HDS := Aside0.mk (retold_mid (op := op) (of := of) (dir := dir) HSE.out)
    generalize hq1 : doCode l ss dd op of = code
    have HQ := Aside0.mk hq1
    clear hq1
    clear SA
    generalize midSecs2 l ss dd op of dir = ms at SM HLM HDS
    generalize hmd : doDead l ss dd op of = md at SM HLD HDS
    have HMD := Aside0.mk hmd
    clear hmd
    have kgo1 : wc.cell? ⟨go, 1, none⟩ = some (.slice (some ⟨gr, 0, none⟩) ss.length cr) := (blk_cell SM.out.D.hs 1).trans rfl
    go_wp2_with fail
    go_loopg [130] ss.length (fun kq v w' => ∃ j : Nat, v = .int .i64 j ∧ Aside0 (j + kq = ss.length) ∧ Aside0 (SpSt w w' gl gz go ge gd [.int .i64 n, .slice A l.length c] [.bool true, .slice A1 ss.length c1, .slice A2 dd.length c2] [.bool true, .slice (some ⟨gr, 0, none⟩) ss.length cr, .slice Ad dd.length cd] [.int .i64 op, .int .i64 of, .int .i64 dir] [.int .i64 0, .bool false, .slice none 0 0, .slice none 0 0] (.slice (some ⟨gr, 0, none⟩) ss.length cr) (.slice Ad dd.length cd) (retoldTo l md ms j) md))
    case atStart => exact ⟨0, rfl, ⟨by omega⟩, ⟨by rw [retoldTo_zero]; exact SM.out⟩⟩
    case round =>
      obtain ⟨j, rfl, HJ, SL⟩ := hrel
      clear SM kgo1
      by_cases hlt : j < ss.length
      · cases gk with
        | zero => exact absurd HJ.out (by omega)
        | succ gk =>
          have hlt' : decide ((j : Int) < (ss.length : Int)) = true := decide_eq_true (by omega)
          have q0 : (0 : Int) ≤ (j : Int) := by omega
          have q1 : (j : Int) < (ss.length : Int) := by omega
          have q2 : ss.length ≤ 60 := by have := HN.out; omega
          go_upto_block 4 with fail
          go_cut [14] from 132 to 147 (fun v14 wx => Aside0 (SpSt w wx gl gz go ge gd [.int .i64 n, .slice A l.length c] [.bool true, .slice A1 ss.length c1, .slice A2 dd.length c2] [.bool true, .slice (some ⟨gr, 0, none⟩) ss.length cr, .slice Ad dd.length cd] [.int .i64 op, .int .i64 of, .int .i64 dir] [.int .i64 0, .bool false, .slice none 0 0, .slice none 0 0] (.slice (some ⟨gr, 0, none⟩) ss.length cr) (.slice Ad dd.length cd) (retoldTo l md ms (j + 1)) md))
          case first =>
            have HML := Aside0.mk (show md.length = l.length by rw [HLD.out]; exact HN.out.2.2.1)
            have n1 : gr ≠ go := fun e => Kd.R_ne SL.out.D.H1 SL.out.D.hs (by decide) (by rw [e]; rfl)
            have n2 : gr ≠ gl := fun e => Kd.R_ne SL.out.D.H1 SL.out.D.hl (by decide) (by rw [e]; rfl)
            have SD := Aside0.mk (SL.out.up (below_drew1 (Below.refl wr.heap.size wr)))
            have kgl0 : wr.cell? ⟨gl, 0, none⟩ = some (.int .i64 n) := (blk_cell SL.out.D.hl 0).trans rfl
            have kgl1 : wr.cell? ⟨gl, 1, none⟩ = some (.slice A l.length c) := (blk_cell SL.out.D.hl 1).trans rfl
            have kgo1 : wr.cell? ⟨go, 1, none⟩ = some (.slice (some ⟨gr, 0, none⟩) ss.length cr) := (blk_cell SL.out.D.hs 1).trans rfl
            have kgo2 : wr.cell? ⟨go, 2, none⟩ = some (.slice Ad dd.length cd) := (blk_cell SL.out.D.hs 2).trans rfl
            obtain ⟨z0, z1, z2, z3, z4, -, -, -, -, -⟩ := sec_at SL.out.D.H1 (j : Int) q0 q1
            rw [Int.toNat_natCast] at z0 z1 z2 z3 z4
            have HLN := Aside0.mk (show (retoldTo l md ms j).length = ss.length by rw [retoldTo_length, HLM.out])
            have HLM2 := Aside0.mk (show dd.length = md.length from HLD.out.symm)
            have HJN := Aside0.mk (show (j : Int) < n by have := HN.out; omega)
            have HRS := Aside0.mk (retold_step l md ms j (by rw [HLM.out]; exact hlt))
            generalize hx : rd_T50 (retoldTo l md ms j) (j : Int) = x at z0 z1 z2 z3 z4 HRS
            have HX := Aside0.mk hx
            clear hx
            go_upto_region 38 with fail
            have dkgl0 : wr.drew.cell? ⟨gl, 0, none⟩ = some (.int .i64 n) := kgl0
            have dkgl1 : wr.drew.cell? ⟨gl, 1, none⟩ = some (.slice A l.length c) := kgl1
            have dkgo1 : wr.drew.cell? ⟨go, 1, none⟩ = some (.slice (some ⟨gr, 0, none⟩) ss.length cr) := kgo1
            have dkgo2 : wr.drew.cell? ⟨go, 2, none⟩ = some (.slice Ad dd.length cd) := kgo2
            have dz0 : wr.drew.cell? ⟨gr, j * 5, none⟩ = some (.int .i64 x.f0) := z0
            have dz1 : wr.drew.cell? ⟨gr, j * 5 + 1, none⟩ = some (.int .i64 x.f1) := z1
            have dz2 : wr.drew.cell? ⟨gr, j * 5 + 2, none⟩ = some (.bool x.f2) := z2
            have dz3 : wr.drew.cell? ⟨gr, j * 5 + 3, none⟩ = some (.bool x.f3) := z3
            have dz4 : wr.drew.cell? ⟨gr, j * 5 + 4, none⟩ = some (.int .i64 x.f4) := z4
            refine start_ (n := 16) (S := fun w' => w'.cell? ⟨gl, 0, none⟩ = some (.int .i64 n) ∧ w'.cell? ⟨gl, 1, none⟩ = some (.slice A l.length c) ∧ w'.cell? ⟨go, 1, none⟩ = some (.slice (some ⟨gr, 0, none⟩) ss.length cr) ∧ w'.cell? ⟨go, 2, none⟩ = some (.slice Ad dd.length cd) ∧ w'.cell? ⟨gr, j * 5, none⟩ = some (.int .i64 x.f0) ∧ w'.cell? ⟨gr, j * 5 + 1, none⟩ = some (.int .i64 x.f1) ∧ w'.cell? ⟨gr, j * 5 + 2, none⟩ = some (.bool x.f2) ∧ w'.cell? ⟨gr, j * 5 + 3, none⟩ = some (.bool x.f3) ∧ w'.cell? ⟨gr, j * 5 + 4, none⟩ = some (.int .i64 x.f4)) (ds := [15]) #[false, false, false, false, false, false, false, false, false, false, false, false, false, false, false, false] (by kernel_rfl) rfl rfl ⟨dkgl0, dkgl1, dkgo1, dkgo2, dz0, dz1, dz2, dz3, dz4⟩ (fun hHeld => ?_); refine with_tabW sd_tab38 sd_bits38 (fun HT_ HW_ => ?_)
            refine pure_ (i := 0) (N := some 133) (v := ?_) (a' := ?_) #[true, false, false, false, false, false, false, false, false, false, false, false, false, false, false, false] rfl rfl (any_of HT_.out (by kernel_rfl)) (fun _ _ _ h => h) (Or.inl ⟨by rfl, ?_⟩) ?_ ?_
            rotate_left
            · intro w'
              go_simp
              with_reducible rfl
            rotate_left
            · simp only [Act.put, List.setIfInBounds_toArray, List.set_cons_zero, List.set_cons_succ, i64_w, i32_w]
              rfl
            refine take_ (i := 1) (N := some 134) (v := ?_) (a' := ?_) #[true, true, false, false, false, false, false, false, false, false, false, false, false, false, false, false] rfl rfl (take_ofW HT_.out HW_.out (by kernel_rfl)) (fun _ _ _ h => h) (Or.inl ⟨by rfl, ?_⟩) hHeld ?_ ?_
            rotate_left
            · rintro w' ⟨s0, s1, s2, s3, s4, s5, s6, s7, s8⟩
              go_simp
              with_reducible rfl
            rotate_left
            · simp only [Act.put, List.setIfInBounds_toArray, List.set_cons_zero, List.set_cons_succ, i64_w, i32_w]
              rfl
            refine pure_ (i := 2) (N := some 135) (v := ?_) (a' := ?_) #[true, true, true, false, false, false, false, false, false, false, false, false, false, false, false, false] rfl rfl (any_of HT_.out (by kernel_rfl)) (fun _ _ _ h => h) (Or.inl ⟨by rfl, ?_⟩) ?_ ?_
            rotate_left
            · intro w'
              go_simp
              with_reducible rfl
            rotate_left
            · simp only [Act.put, List.setIfInBounds_toArray, List.set_cons_zero, List.set_cons_succ, i64_w, i32_w]
              rfl
            refine take_ (i := 3) (N := some 136) (v := ?_) (a' := ?_) #[true, true, true, true, false, false, false, false, false, false, false, false, false, false, false, false] rfl rfl (take_ofW HT_.out HW_.out (by kernel_rfl)) (fun _ _ _ h => h) (Or.inl ⟨by rfl, ?_⟩) hHeld ?_ ?_
            rotate_left
            · rintro w' ⟨s0, s1, s2, s3, s4, s5, s6, s7, s8⟩
              go_simp
              with_reducible rfl
            rotate_left
            · simp only [Act.put, List.setIfInBounds_toArray, List.set_cons_zero, List.set_cons_succ, i64_w, i32_w]
              rfl
            refine pure_ (i := 4) (N := some 137) (v := ?_) (a' := ?_) #[true, true, true, true, true, false, false, false, false, false, false, false, false, false, false, false] rfl rfl (any_of HT_.out (by kernel_rfl)) (fun _ _ _ h => h) (Or.inl ⟨by rfl, ?_⟩) ?_ ?_
            rotate_left
            · intro w'
              go_simp
              with_reducible rfl
            rotate_left
            · simp only [Act.put, List.setIfInBounds_toArray, List.set_cons_zero, List.set_cons_succ, i64_w, i32_w]
              rfl
            refine take_ (i := 5) (N := some 138) (v := ?_) (a' := ?_) #[true, true, true, true, true, true, false, false, false, false, false, false, false, false, false, false] rfl rfl (take_ofW HT_.out HW_.out (by kernel_rfl)) (fun _ _ _ h => h) (Or.inl ⟨by rfl, ?_⟩) hHeld ?_ ?_
            rotate_left
            · rintro w' ⟨s0, s1, s2, s3, s4, s5, s6, s7, s8⟩
              go_simp
              with_reducible rfl
            rotate_left
            · simp only [Act.put, List.setIfInBounds_toArray, List.set_cons_zero, List.set_cons_succ, i64_w, i32_w]
              rfl
            refine pure_ (i := 6) (N := some 139) (v := ?_) (a' := ?_) #[true, true, true, true, true, true, true, false, false, false, false, false, false, false, false, false] rfl rfl (any_of HT_.out (by kernel_rfl)) (fun _ _ _ h => h) (Or.inl ⟨by rfl, ?_⟩) ?_ ?_
            rotate_left
            · intro w'
              go_simp
              with_reducible rfl
            rotate_left
            · simp only [Act.put, List.setIfInBounds_toArray, List.set_cons_zero, List.set_cons_succ, i64_w, i32_w]
              rfl
            refine pure_ (i := 7) (N := some 140) (v := ?_) (a' := ?_) #[true, true, true, true, true, true, true, true, false, false, false, false, false, false, false, false] rfl rfl (any_of HT_.out (by kernel_rfl)) (fun _ _ _ h => h) (Or.inl ⟨by rfl, ?_⟩) ?_ ?_
            rotate_left
            · intro w'
              go_simp
              with_reducible rfl
            rotate_left
            · simp only [Act.put, List.setIfInBounds_toArray, List.set_cons_zero, List.set_cons_succ, i64_w, i32_w]
              rfl
            refine take_ (i := 8) (N := some 141) (v := ?_) (a' := ?_) #[true, true, true, true, true, true, true, true, true, false, false, false, false, false, false, false] rfl rfl (take_ofW HT_.out HW_.out (by kernel_rfl)) (fun _ _ _ h => h) (Or.inl ⟨by rfl, ?_⟩) hHeld ?_ ?_
            rotate_left
            · rintro w' ⟨s0, s1, s2, s3, s4, s5, s6, s7, s8⟩
              go_simp
              with_reducible rfl
            rotate_left
            · simp only [Act.put, List.setIfInBounds_toArray, List.set_cons_zero, List.set_cons_succ, i64_w, i32_w]
              rfl
            refine pure_ (i := 9) (N := some 142) (v := ?_) (a' := ?_) #[true, true, true, true, true, true, true, true, true, true, false, false, false, false, false, false] rfl rfl (any_of HT_.out (by kernel_rfl)) (fun _ _ _ h => h) (Or.inl ⟨by rfl, ?_⟩) ?_ ?_
            rotate_left
            · intro w'
              go_simp
              with_reducible rfl
            rotate_left
            · simp only [Act.put, List.setIfInBounds_toArray, List.set_cons_zero, List.set_cons_succ, i64_w, i32_w]
              rfl
            refine pure_ (i := 10) (N := some 143) (v := ?_) (a' := ?_) #[true, true, true, true, true, true, true, true, true, true, true, false, false, false, false, false] rfl rfl (any_of HT_.out (by kernel_rfl)) (fun _ _ _ h => h) (Or.inl ⟨by rfl, ?_⟩) ?_ ?_
            rotate_left
            · intro w'
              go_simp
              with_reducible rfl
            rotate_left
            · simp only [Act.put, List.setIfInBounds_toArray, List.set_cons_zero, List.set_cons_succ, i64_w, i32_w]
              rfl
            refine take_ (i := 11) (N := some 144) (v := ?_) (a' := ?_) #[true, true, true, true, true, true, true, true, true, true, true, true, false, false, false, false] rfl rfl (take_ofW HT_.out HW_.out (by kernel_rfl)) (fun _ _ _ h => h) (Or.inl ⟨by rfl, ?_⟩) hHeld ?_ ?_
            rotate_left
            · rintro w' ⟨s0, s1, s2, s3, s4, s5, s6, s7, s8⟩
              go_simp
              with_reducible rfl
            rotate_left
            · simp only [Act.put, List.setIfInBounds_toArray, List.set_cons_zero, List.set_cons_succ, i64_w, i32_w]
              rfl
            refine one_ (i := 12) (N := some 145) #[true, true, true, true, true, true, true, true, true, true, true, true, true, false, false, false] rfl rfl (one_of HT_.out (by kernel_rfl)) (by decide) (fun K hK => ?_)
            refine goes_ Try.func113 (by kernel_rfl) rfl #[.agg #[.int .i64 n, .slice A l.length c], .slice Ad dd.length cd, .int .i64 (j : Int), .agg #[.int .i64 x.f0, .int .i64 x.f1, .bool x.f2, .bool x.f3, .int .i64 x.f4]] (by rfl) rfl rfl (by (try simp only [List.map_toArray, List.map_cons, List.map_nil]); first | done | rfl | (simp only [List.length_drop, List.length_take]; rfl)) ?_
            with_reducible refine (stold_of (j : Int) x (Kd.C_below HR.out SD.out.D.hB) hc SD.out.D.H2 HLM2.out HN.out.1 q0 HJN.out HML.out).mono ?_; rintro e w' ⟨rfl, hb⟩
            refine ⟨_, rfl, ?_⟩
            have S2 := Aside0.mk (SD.out.up hb)
            obtain ⟨zz, -, -, -, -, zf, -, -, -, -⟩ := sec_at S2.out.D.H1 (j : Int) q0 q1
            rw [Int.toNat_natCast] at zz zf
            refine hK.out _ _ ⟨pw_cell_below hb hHeld.1, pw_cell_below hb hHeld.2.1, pw_cell_below hb hHeld.2.2.1, pw_cell_below hb hHeld.2.2.2.1, pw_cell_below hb hHeld.2.2.2.2.1, pw_cell_below hb hHeld.2.2.2.2.2.1, pw_cell_below hb hHeld.2.2.2.2.2.2.1, pw_cell_below hb hHeld.2.2.2.2.2.2.2.1, pw_cell_below hb hHeld.2.2.2.2.2.2.2.2⟩ (fun hHeld => ?_)
            clear hK K
            refine norm_ (a' := ?_) ?_ ?_
            rotate_left
            · show Act.put _ (some 145) _ = _
              simp only [Act.put, List.setIfInBounds_toArray, List.set_cons_zero, List.set_cons_succ, i64_w, i32_w]
              rfl
            refine pure_ (i := 13) (N := some 146) (v := ?_) (a' := ?_) #[true, true, true, true, true, true, true, true, true, true, true, true, true, true, false, false] rfl rfl (any_of HT_.out (by kernel_rfl)) (fun _ _ _ h => h) (Or.inl ⟨by rfl, ?_⟩) ?_ ?_
            rotate_left
            · intro w'
              go_simp
              with_reducible rfl
            rotate_left
            · simp only [Act.put, List.setIfInBounds_toArray, List.set_cons_zero, List.set_cons_succ, i64_w, i32_w]
              rfl
            refine pure_ (i := 14) (N := some 147) (v := ?_) (a' := ?_) #[true, true, true, true, true, true, true, true, true, true, true, true, true, true, true, false] rfl rfl (any_of HT_.out (by kernel_rfl)) (fun _ _ _ h => h) (Or.inl ⟨by rfl, ?_⟩) ?_ ?_
            rotate_left
            · intro w'
              go_simp
              with_reducible rfl
            rotate_left
            · simp only [Act.put, List.setIfInBounds_toArray, List.set_cons_zero, List.set_cons_succ, i64_w, i32_w]
              rfl
            refine last_ (i := 15) (N := none) #[true, true, true, true, true, true, true, true, true, true, true, true, true, true, true, true] rfl rfl (one_of HT_.out (by kernel_rfl)) (by decide) (fun K hK => ?_)
            refine skip_ (w1 := ?_) (by rfl) rfl ?_ ?_
            rotate_left
            · go_simp
              rfl
            refine hK.out _ _ ?_
            clear hK K
            refine done_ (done_of HT_.out (by kernel_rfl)) ?_
            go_wp2_with fail
            go_meet
            obtain ⟨hR, hg⟩ := (SecSt.start S2.out.D.H1 q0 q1).put0 q0 q1 (u := toldC l md (j : Int) x) (show j * 5 = (j : Int).toNat * 5 + 0 by rw [Int.toNat_natCast, Nat.add_zero])
            rw [HX.out] at hR
            rw [HRS.out] at hR
            exact ⟨S2.out.sec hR hg⟩
          case rest =>
            go_wp2_with fail
            go_roundg gk
            case measure => omega
            case rel => exact ⟨j + 1, by go_num, ⟨by have := HJ.out; omega⟩, hcut⟩
      · have hlt' : decide ((j : Int) < (ss.length : Int)) = false := decide_eq_false (by omega)
        have hj : j = ss.length := by have := HJ.out; omega
        have hre : retoldTo l md ms j = retold l md ms := by rw [retold, HLM.out, hj]
        have SF0 := Aside0.mk (show SpSt w wr gl gz go ge gd [.int .i64 n, .slice A l.length c] [.bool true, .slice A1 ss.length c1, .slice A2 dd.length c2] [.bool true, .slice (some ⟨gr, 0, none⟩) ss.length cr, .slice Ad dd.length cd] [.int .i64 op, .int .i64 of, .int .i64 dir] [.int .i64 0, .bool false, .slice none 0 0, .slice none 0 0] (.slice (some ⟨gr, 0, none⟩) ss.length cr) (.slice Ad dd.length cd) (doSecs l ss dd op of dir) md by rw [← HDS.out, ← hre]; exact SL.out)
        clear hj hre SL
        have kgo0 : wr.cell? ⟨go, 0, none⟩ = some (.bool true) := (blk_cell SF0.out.D.hs 0).trans rfl
        have kgo1 : wr.cell? ⟨go, 1, none⟩ = some (.slice (some ⟨gr, 0, none⟩) ss.length cr) := (blk_cell SF0.out.D.hs 1).trans rfl
        have kgo2 : wr.cell? ⟨go, 2, none⟩ = some (.slice Ad dd.length cd) := (blk_cell SF0.out.D.hs 2).trans rfl
        have kd0 : wr.cell? ⟨gd, 0, none⟩ = some (.int .i64 0) := (blk_cell SF0.out.D.hd 0).trans rfl
        have kz0 := blk_frozen SF0.out.D.hd 0
        have kd1 : wr.cell? ⟨gd, 1, none⟩ = some (.bool false) := (blk_cell SF0.out.D.hd 1).trans rfl
        have kz1 := blk_frozen SF0.out.D.hd 1
        have kd2 : wr.cell? ⟨gd, 2, none⟩ = some (.slice none 0 0) := (blk_cell SF0.out.D.hd 2).trans rfl
        have kz2 := blk_frozen SF0.out.D.hd 2
        have kd3 : wr.cell? ⟨gd, 3, none⟩ = some (.slice none 0 0) := (blk_cell SF0.out.D.hd 3).trans rfl
        have kz3 := blk_frozen SF0.out.D.hd 3
        go_wp2_with fail
        have SF := SF0.out.D.fill (y0 := .int .i64 code) (y1 := .bool true) (y2 := (.slice (some ⟨gr, 0, none⟩) ss.length cr)) (y3 := (.slice Ad dd.length cd))
        exact bodyPost_ret (results_cell_row rfl _ _ gd 48 _ (0, 0) _ rfl SF.hd Try.underlying48 rfl (by kernel_rfl)) rfl ⟨_, _, by rw [HQ.out], SF.H1, by rw [HMD.out]; exact SF.H2, SF.hB⟩
end Go.Proofs.Ytpdnabhpkdchjaa.P
namespace Go.Proofs.Ytpdnabhpkdchjaa.P
open Go.RowKit Go.Proofs.YtpdnabhpkdchjaaW.PrintWords Go.Proofs.YtpdnabhpkdchjaaW.PrintLast Go.Proofs.YtpdnabhpkdchjaaW.PrintMore
attribute [local go_sem ↓] Go.wp_at_zero Go.wp_at_succ
set_option linter.unusedVariables false
set_option linter.unusedSimpArgs false
theorem doCode_ne (l : List S88) (ss : List S50) (dd : List Bool) (op of : Int) : doCode l ss dd op of ≠ 1 := by
  unfold doCode
  split
  · split <;> decide
  · split
    · split
      · decide
      · split <;> decide
    · decide
section
variable {w0 wr w w' w1 : World} {gl gs gd : Nat} {lv sv dv : List Value} {u1 u2 v v1 v2 v3 : Value} {s : S46} {ss : List S50} {dd : List Bool} {out : List S48}
theorem RnSt.midC {b : Bool} {x0 x1 x2 x3 : Value} (h : RnSt w0 wr gl gs lv sv u1 u2 s v out) (hb : Below wr.heap.size wr w) (hd : w.heap[gd]? = some (.cells #[x0, x1, x2, x3] 48 (0, 0))) (gde : wr.heap.size ≤ gd) (R1 : Kd.R k50 50 w wr.heap.size (fun _ => True) v2 ss) (R2 : Kd.R Kd.bool 4 w wr.heap.size (fun _ => True) v3 dd) :
    MdSt w0 wr (((w.setCell ⟨gd, 1, none⟩ (.bool b)).setCell ⟨gd, 2, none⟩ v2).setCell ⟨gd, 3, none⟩ v3) gl gs gd lv sv [x0, .bool b, v2, v3] v2 v3 ss dd v out := by
  have n1 := Kd.R_ne R1 hd (by decide)
  have n2 := Kd.R_ne R2 hd (by decide)
  exact h.mid (below_set (below_set (below_set hb gde) gde) gde) (blk_put (blk_put (blk_put hd 1 _ rfl) 2 _ rfl) 3 _ rfl) gde (R_off rfl (R_off rfl (R_off rfl R1 n1 _) n1 _) n1 _) (R_off rfl (R_off rfl (R_off rfl R2 n2 _) n2 _) n2 _)
theorem MdSt.setS {x0 x1 x2 : Value} (h : MdSt w0 wr w gl gs gd lv [x0, x1, x2] dv v2 v3 ss dd v out) (y : Value) :
    MdSt w0 wr (((w.setCell ⟨gs, 0, none⟩ y).setCell ⟨gs, 1, none⟩ v2).setCell ⟨gs, 2, none⟩ v3) gl gs gd lv [y, v2, v3] dv v2 v3 ss dd v out := by
  have n1 := Kd.R_ne h.R1 h.hs (by decide)
  have n2 := Kd.R_ne h.R2 h.hs (by decide)
  have nl := blk_ne h.hl h.hs (by decide)
  have nd := blk_ne h.hd h.hs (by decide)
  have hq : ∀ q, q ∈ 48 :: k48.E → q ≠ 46 := by decide
  have s0 := blk_put h.hs 0 y rfl
  have s1 := blk_put s0 1 v2 rfl
  have s2 := blk_put s1 2 v3 rfl
  exact {
    hl := blk_far (blk_far (blk_far h.hl nl _) nl _) nl _
    hs := s2
    hd := blk_far (blk_far (blk_far h.hd nd _) nd _) nd _
    R1 := R_off rfl (R_off rfl (R_off rfl h.R1 n1 _) n1 _) n1 _
    R2 := R_off rfl (R_off rfl (R_off rfl h.R2 n2 _) n2 _) n2 _
    HS := Kd.S_set (Kd.S_set (Kd.S_set h.HS h.hs hq 0 _) s0 hq 1 _) s1 hq 2 _
    hB := below_set (below_set (below_set h.hB h.gse) h.gse) h.gse
    gle := h.gle
    gse := h.gse
    gde := h.gde
    hw := h.hw }
theorem MdSt.fin2 (h : MdSt w0 wr w gl gs gd lv sv dv v2 v3 ss dd v out) {code : Int} {b : Bool} (HS1 : Kd.S k48 48 w1 w0.heap.size (fun _ => True) v1 (out ++ [⟨code, ⟨b, ss, dd⟩⟩])) (hB1 : Below w0.heap.size w0 w1) (hg : w.grownBy w1 v.ownBlock) :
    RnSt w0 w1 gl gs lv sv v2 v3 ⟨b, ss, dd⟩ v1 (out ++ [⟨code, ⟨b, ss, dd⟩⟩]) where
  hl := blk_grown h.hl hg (Kd.S_ne h.HS h.hl (by decide))
  hs := blk_grown h.hs hg (Kd.S_ne h.HS h.hs (by decide))
  V1 := Kd.V_grown (Kd.R_V (Kd.R_tight rfl h.R1)) hg (fun k hk => h.okp_ne (.inl hk))
  V2 := Kd.V_grown (Kd.R_V (Kd.R_tight rfl h.R2)) hg (fun k hk => h.okp_ne (.inr hk))
  HS := HS1
  hB := hB1
  gle := h.gle
  gse := h.gse
end
set_option maxHeartbeats 8000000 in
set_option maxRecDepth 100000 in
theorem srun_is (n : Int) (A : Option Addr) (c : Nat) (l : List S88) (A1 : Option Addr) (c1 : Nat) (es : List S56) (w : World) (hr : Kd.C k88 w A l.length l) (hc : l.length ≤ c) (hr1 : Kd.C k56 w A1 es.length es) (hc1 : es.length ≤ c1) :
    Calls Try.prog 28 #[.agg #[.int .i64 n, .slice A l.length c], .slice A1 es.length c1] w fun e w' => ∃ v0_ : Value, e = .returned (v0_) ∧ Kd.S k48 48 w' w.heap.size (fun _ => True) v0_ (run n l es) ∧ Below w.heap.size w w' := by
  have HR := Aside0.mk hr
  have HC := Aside0.mk hc
  have HR1 := Aside0.mk hr1
  have HC1 := Aside0.mk hc1
  clear hr hc hr1 hc1
  by_cases hl : layoutOk n l = 0
  · by_cases he : es.length ≤ 2000
    · skip
      have b0 : (layoutOk n l != 0) = false := bne_eq_false_iff_eq.mpr hl
      have b1 : decide ((es.length : Int) > 2000) = false := decide_eq_false (by omega)
      have HL := Aside0.mk hl
      have HE := Aside0.mk he
      have HN := Aside0.mk (lay_n hl)
      clear hl he
      go_enter Try.func28, Try.ntmps28
      go_upto_region 4 with (first | ((with_reducible refine gate_dst (N := 2) rfl ?_); refine box_event ?hg (N := 2) ?hd (cs := #[.int .i64 n, .slice A l.length c]) (t := 30) ?hr ?_; (case hd => rfl); (case hg => rfl); (case hr => first | (go_simp; done) | (go_simp; rfl)); intro gl el wl kl bl; have hcz0 := (blk_cell kl 0).trans (show _ = some (Value.int .i64 n) from rfl); have hcz1 := (blk_cell kl 1).trans (show _ = some (Value.slice A l.length c) from rfl); have KL := Aside0.mk kl; have BL := Aside0.mk bl; have GL := Aside0.mk (show w.heap.size ≤ gl by rw [el]; exact Nat.le_refl _); clear kl bl el) | (go_at_call 23; refine (slay_is (Kd.C_below HR.out BL.out) HC.out).mono ?_; rintro e w1 ⟨rfl, hb⟩; have KL := Aside0.mk (blk_below KL.out hb); have BL := Aside0.mk (below_step BL.out hb); clear hb; have hcy0 := (blk_cell KL.out 0).trans (show _ = some (Value.int .i64 n) from rfl); have hcy1 := (blk_cell KL.out 1).trans (show _ = some (Value.slice A l.length c) from rfl)) | (go_at_call 43; refine (sbegin_is (Kd.C_below HR.out BL.out) HC.out HL.out).mono ?_; rintro e w2 ⟨v1, v2, rfl, r1, r2, hb⟩; obtain ⟨a1, d1, rfl⟩ := Kd.R_slice r1; obtain ⟨a2, d2, rfl⟩ := Kd.R_slice r2; have R1 := Aside0.mk (Kd.R_lower r1 BL.out.size); have R2 := Aside0.mk (Kd.R_lower r2 BL.out.size); have KL := Aside0.mk (blk_below KL.out hb); have BL := Aside0.mk (below_step BL.out hb); clear hb r1 r2) | ((with_reducible refine gate_dst (N := 5) rfl ?_); refine box_event ?hg (N := 5) ?hd (cs := #[.bool false, .slice none 0 0, .slice none 0 0]) (t := 46) ?hr ?_; (case hd => rfl); (case hg => rfl); (case hr => first | (go_simp; done) | (go_simp; rfl)); intro gs es_ ws ks bs; have KS := Aside0.mk ks; have ES := Aside0.mk es_; have BS := Aside0.mk bs; have zs0 := blk_frozen ks 0; have zs1 := blk_frozen ks 1; have zs2 := blk_frozen ks 2; have ks0 := (blk_cell ks 0).trans (show _ = some (Value.bool false) from rfl); have ks1 := (blk_cell ks 1).trans (show _ = some (Value.slice none 0 0) from rfl); have ks2 := (blk_cell ks 2).trans (show _ = some (Value.slice none 0 0) from rfl); clear ks es_ bs))
      clear hcz0 hcz1 hcy0 hcy1
      have BX := Aside0.mk (below_set (j := 2) (v := .slice a2 (st0 n l).f2.length d2) (below_set (j := 1) (v := .slice a1 (st0 n l).f1.length d1) (below_set (j := 0) (v := .bool true) BS.out (Nat.le_of_eq ES.out.symm)) (Nat.le_of_eq ES.out.symm)) (Nat.le_of_eq ES.out.symm))
      have KX := Aside0.mk (blk_put (blk_put (blk_put KS.out 0 (.bool true) rfl) 1 (.slice a1 (st0 n l).f1.length d1) rfl) 2 (.slice a2 (st0 n l).f2.length d2) rfl)
      have ST := Aside0.mk (show RnSt w (((ws.setCell ⟨gs, 0, none⟩ (.bool true)).setCell ⟨gs, 1, none⟩ (.slice a1 (st0 n l).f1.length d1)).setCell ⟨gs, 2, none⟩ (.slice a2 (st0 n l).f2.length d2)) gl gs [.int .i64 n, .slice A l.length c] [.bool true, .slice a1 (st0 n l).f1.length d1, .slice a2 (st0 n l).f2.length d2] (.slice a1 (st0 n l).f1.length d1) (.slice a2 (st0 n l).f2.length d2) (st0 n l) (.slice none 0 0) [] from ⟨blk_below KL.out BX.out, KX.out, Kd.V_below (Kd.R_V (Kd.R_tight rfl R1.out)) BX.out, Kd.V_below (Kd.R_V (Kd.R_tight rfl R2.out)) BX.out, Kd.S_nil _ _ _ _ _, below_step BL.out BX.out, GL.out, by rw [ES.out]; exact BL.out.size⟩)
      clear KL BL R1 R2 KS ES BS zs0 zs1 zs2 ks0 ks1 ks2 BX KX
      generalize (((ws.setCell ⟨gs, 0, none⟩ (.bool true)).setCell ⟨gs, 1, none⟩ (.slice a1 (st0 n l).f1.length d1)).setCell ⟨gs, 2, none⟩ (.slice a2 (st0 n l).f2.length d2)) = wa at ST ⊢
      go_wp2_with fail
      go_loopg [6, 22] es.length (fun kq vo v22 w' => ∃ j : Nat, v22 = .int .i64 j ∧ Aside0 (j + kq = es.length) ∧ ∃ u1 u2 : Value, Aside0 (RnSt w w' gl gs [.int .i64 n, .slice A l.length c] [.bool true, u1, u2] u1 u2 (stAt n l es j) vo (runTo n l es j)))
      case atStart => exact ⟨0, rfl, ⟨by omega⟩, _, _, ⟨by rw [stAt_zero]; exact ST.out⟩⟩
      case round =>
        clear ST
        obtain ⟨j, rfl, HJ, u1, u2, ST⟩ := hrel
        by_cases hlt : j < es.length
        · cases gk with
          | zero => exact absurd HJ.out (by omega)
          | succ gk =>
            have hlt' : decide ((j : Int) < (es.length : Int)) = true := decide_eq_true (by omega)
            have q0 : (0 : Int) ≤ (j : Int) := by omega
            have q1 : (j : Int) < (es.length : Int) := by omega
            obtain ⟨a1, d1, e1⟩ := Kd.V_slice ST.out.V1
            obtain ⟨a2, d2, e2⟩ := Kd.V_slice ST.out.V2
            subst e1 e2
            obtain ⟨ad, e, x0, x1, x2⟩ := at_T56 HR1.out (j : Int) q0 q1
            subst e
            replace x0 := pw_cell_below ST.out.hB x0
            replace x1 := pw_cell_below ST.out.hB x1
            replace x2 := pw_cell_below ST.out.hB x2
            rw [Int.toNat_natCast] at x0 x1 x2
            have HSU := Aside0.mk (stAt_succ n l es j hlt)
            have HRU := Aside0.mk (runTo_succ n l es j)
            have HLT := Aside0.mk (stAt_len n l es j)
            have HSO := Aside0.mk (stAt_ok HL.out es j)
            generalize hx : rd_T56 es (j : Int) = x at x0 x1 x2 HSU HRU
            clear hx
            generalize hst : stAt n l es j = s at ST HSU HRU HLT HSO ⊢
            clear hst
            go_upto_region 8 with ((with_reducible refine gate_dst (N := 8) rfl ?_); refine box_event ?hg (N := 8) ?hd (cs := #[.int .i64 0, .int .i64 0, .int .i64 0]) (t := 56) ?hr ?_; (case hd => rfl); (case hg => rfl); (case hr => first | (go_simp; done) | (go_simp; rfl)); intro ge ee we ke be; have KE := Aside0.mk ke; have EE := Aside0.mk ee; have BE := Aside0.mk be; have z0 := blk_frozen ke 0; have z1 := blk_frozen ke 1; have z2 := blk_frozen ke 2; have c0_ := (blk_cell ke 0).trans (show _ = some (Value.int .i64 0) from rfl); have c1_ := (blk_cell ke 1).trans (show _ = some (Value.int .i64 0) from rfl); have c2_ := (blk_cell ke 2).trans (show _ = some (Value.int .i64 0) from rfl); clear ke ee be)
            have KX := Aside0.mk (blk_put (blk_put (blk_put KE.out 0 (.int .i64 x.f0) rfl) 1 (.int .i64 x.f1) rfl) 2 (.int .i64 x.f2) rfl)
            have BX := Aside0.mk (below_set (j := 2) (v := .int .i64 x.f2) (below_set (j := 1) (v := .int .i64 x.f1) (below_set (j := 0) (v := .int .i64 x.f0) BE.out (Nat.le_of_eq EE.out.symm)) (Nat.le_of_eq EE.out.symm)) (Nat.le_of_eq EE.out.symm))
            clear KE BE EE z0 z1 z2 c0_ c1_ c2_ x0 x1 x2
            generalize (((we.setCell ⟨ge, 0, none⟩ (.int .i64 x.f0)).setCell ⟨ge, 1, none⟩ (.int .i64 x.f1)).setCell ⟨ge, 2, none⟩ (.int .i64 x.f2)) = w8 at KX BX ⊢
            have SX := Aside0.mk (ST.out.up BX.out)
            have kl0 : w8.cell? ⟨gl, 0, none⟩ = some (.int .i64 n) := (blk_cell (SX.out).hl 0).trans rfl
            have kl1 : w8.cell? ⟨gl, 1, none⟩ = some (.slice A l.length c) := (blk_cell (SX.out).hl 1).trans rfl
            have ks0 : w8.cell? ⟨gs, 0, none⟩ = some (.bool true) := (blk_cell (SX.out).hs 0).trans rfl
            have ks1 : w8.cell? ⟨gs, 1, none⟩ = some (.slice a1 s.f1.length d1) := (blk_cell (SX.out).hs 1).trans rfl
            have ks2 : w8.cell? ⟨gs, 2, none⟩ = some (.slice a2 s.f2.length d2) := (blk_cell (SX.out).hs 2).trans rfl
            have ke0 : w8.cell? ⟨ge, 0, none⟩ = some (.int .i64 x.f0) := (blk_cell KX.out 0).trans rfl
            have ke1 : w8.cell? ⟨ge, 1, none⟩ = some (.int .i64 x.f1) := (blk_cell KX.out 1).trans rfl
            have ke2 : w8.cell? ⟨ge, 2, none⟩ = some (.int .i64 x.f2) := (blk_cell KX.out 2).trans rfl
            have HSO2 := Aside0.mk (show stateOk n l true s.f1 s.f2 = true by have := HSO.out; rw [HLT.out.2.2] at this; exact this)
            cases hok : eventOk n l x.f0 x.f1 x.f2 with
            | false =>
              have HO := Aside0.mk hok
              clear hok
              have HST := Aside0.mk (show runStep n l s x = ⟨1, ⟨true, s.f1, s.f2⟩⟩ by unfold runStep; rw [HO.out]; rfl)
              go_upto_region 9 with (first | (go_at_call 69; refine (sdo_badE n A c l true a1 d1 s.f1 a2 d2 s.f2 x.f0 x.f1 x.f2 _ (Kd.C_below HR.out SX.out.hB) HC.out (Kd.V_reads' SX.out.V1).2.2 (Kd.V_reads' SX.out.V1).2.1 (Kd.V_reads' SX.out.V2).2.2 (Kd.V_reads' SX.out.V2).2.1 HSO2.out HO.out).mono ?_; rintro e wd ⟨rfl, hb⟩; have B9 := Aside0.mk (below_step BX.out hb); clear hb) | ((with_reducible refine gate_dst (N := 9) rfl ?_); refine box_event ?hg (N := 9) ?hd (cs := #[.int .i64 0, .bool false, .slice none 0 0, .slice none 0 0]) (t := 48) ?hr ?_; (case hd => rfl); (case hg => rfl); (case hr => first | (go_simp; done) | (go_simp; rfl)); intro gd ed wb kd bd; have KD := Aside0.mk kd; have ED := Aside0.mk ed; have BD := Aside0.mk bd; have zd0 := blk_frozen kd 0; have zd1 := blk_frozen kd 1; have zd2 := blk_frozen kd 2; have zd3 := blk_frozen kd 3; have kd0 := (blk_cell kd 0).trans (show _ = some (Value.int .i64 0) from rfl); have kd1 := (blk_cell kd 1).trans (show _ = some (Value.bool false) from rfl); have kd2 := (blk_cell kd 2).trans (show _ = some (Value.slice none 0 0) from rfl); have kd3 := (blk_cell kd 3).trans (show _ = some (Value.slice none 0 0) from rfl); clear kd ed bd))
              have KF := Aside0.mk (blk_put (blk_put (blk_put (blk_put KD.out 0 (.int .i64 1) rfl) 1 (.bool false) rfl) 2 (.slice none 0 0) rfl) 3 (.slice none 0 0) rfl)
              have GD := Aside0.mk (show wr.heap.size ≤ gd by rw [ED.out]; exact B9.out.size)
              have BF := Aside0.mk (below_set (j := 3) (v := .slice none 0 0) (below_set (j := 2) (v := .slice none 0 0) (below_set (j := 1) (v := .bool false) (below_set (j := 0) (v := .int .i64 1) (below_step B9.out BD.out) GD.out) GD.out) GD.out) GD.out)
              clear kl0 kl1 ks0 ks1 ks2 ke0 ke1 ke2 kd0 kd1 kd2 kd3 zd0 zd1 zd2 zd3 KD BD B9 ED SX
              generalize ((((wb.setCell ⟨gd, 0, none⟩ (.int .i64 1)).setCell ⟨gd, 1, none⟩ (.bool false)).setCell ⟨gd, 2, none⟩ (.slice none 0 0)).setCell ⟨gd, 3, none⟩ (.slice none 0 0)) = w9 at KF BF ⊢
              have S9 := Aside0.mk (ST.out.up BF.out)
              have kd0 : w9.cell? ⟨gd, 0, none⟩ = some (.int .i64 1) := (blk_cell KF.out 0).trans rfl
              have kd1 : w9.cell? ⟨gd, 1, none⟩ = some (.bool false) := (blk_cell KF.out 1).trans rfl
              have kd2 : w9.cell? ⟨gd, 2, none⟩ = some (.slice none 0 0) := (blk_cell KF.out 2).trans rfl
              have kd3 : w9.cell? ⟨gd, 3, none⟩ = some (.slice none 0 0) := (blk_cell KF.out 3).trans rfl
              have ks0 : w9.cell? ⟨gs, 0, none⟩ = some (.bool true) := (blk_cell S9.out.hs 0).trans rfl
              have ks1 : w9.cell? ⟨gs, 1, none⟩ = some (.slice a1 s.f1.length d1) := (blk_cell S9.out.hs 1).trans rfl
              have ks2 : w9.cell? ⟨gs, 2, none⟩ = some (.slice a2 s.f2.length d2) := (blk_cell S9.out.hs 2).trans rfl
              have hs1 : s.f1.length ≤ 1048576 := by rw [HLT.out.1]; have := HN.out; omega
              have hs2 : s.f2.length ≤ 1048576 := by rw [HLT.out.2.1]; have := HN.out; omega
              have HS1_ := Aside0.mk hs1
              have HS2_ := Aside0.mk hs2
              clear hs1 hs2
              go_upto_region 11 with (go_at_call 93; refine (copy_is (Kd.V_reads' S9.out.V1).2.2 (Kd.V_reads' S9.out.V1).2.1 (Kd.V_reads' S9.out.V2).2.2 (Kd.V_reads' S9.out.V2).2.1 HS1_.out HS2_.out).mono ?_; rintro e wf ⟨v2, v3, rfl, r1, r2, hb⟩; obtain ⟨b2, f2, rfl⟩ := Kd.R_slice r1; obtain ⟨b3, f3, rfl⟩ := Kd.R_slice r2; have NR1 := Aside0.mk (Kd.R_lower r1 BF.out.size); have NR2 := Aside0.mk (Kd.R_lower r2 BF.out.size); have KG := Aside0.mk (blk_below KF.out hb); have BG := Aside0.mk (below_step BF.out hb); clear r1 r2 hb; have kd0 : wf.cell? ⟨gd, 0, none⟩ = some (.int .i64 1) := (blk_cell KG.out 0).trans rfl; have kd1 : wf.cell? ⟨gd, 1, none⟩ = some (.bool false) := (blk_cell KG.out 1).trans rfl; have kd2 : wf.cell? ⟨gd, 2, none⟩ = some (.slice none 0 0) := (blk_cell KG.out 2).trans rfl; have kd3 : wf.cell? ⟨gd, 3, none⟩ = some (.slice none 0 0) := (blk_cell KG.out 3).trans rfl; have zd0 := blk_frozen KG.out 0; have zd1 := blk_frozen KG.out 1; have zd2 := blk_frozen KG.out 2; have zd3 := blk_frozen KG.out 3)
              have HM3 := Aside0.mk (ST.out.midC (b := true) BG.out KG.out GD.out NR1.out NR2.out)
              clear kd0 kd1 kd2 kd3 zd0 zd1 zd2 zd3 ks0 ks1 ks2 KG BG NR1 NR2 S9 KF BF
              generalize (((wf.setCell ⟨gd, 1, none⟩ (.bool true)).setCell ⟨gd, 2, none⟩ (.slice b2 s.f1.length f2)).setCell ⟨gd, 3, none⟩ (.slice b3 s.f2.length f3)) = wg at HM3 ⊢
              have kd0 : wg.cell? ⟨gd, 0, none⟩ = some (.int .i64 (1)) := (blk_cell HM3.out.hd 0).trans rfl
              have kd1 : wg.cell? ⟨gd, 1, none⟩ = some (.bool true) := (blk_cell HM3.out.hd 1).trans rfl
              have kd2 : wg.cell? ⟨gd, 2, none⟩ = some (.slice b2 s.f1.length f2) := (blk_cell HM3.out.hd 2).trans rfl
              have kd3 : wg.cell? ⟨gd, 3, none⟩ = some (.slice b3 s.f2.length f3) := (blk_cell HM3.out.hd 3).trans rfl
              have kt0 : wg.cell? ⟨gs, 0, none⟩ = some (.bool true) := (blk_cell HM3.out.hs 0).trans rfl
              have kt1 : wg.cell? ⟨gs, 1, none⟩ = some (.slice a1 s.f1.length d1) := (blk_cell HM3.out.hs 1).trans rfl
              have kt2 : wg.cell? ⟨gs, 2, none⟩ = some (.slice a2 s.f2.length d2) := (blk_cell HM3.out.hs 2).trans rfl
              have zt0 := blk_frozen HM3.out.hs 0
              have zt1 := blk_frozen HM3.out.hs 1
              have zt2 := blk_frozen HM3.out.hs 2
              go_upto_region 12 with fail
              have HS4 := Aside0.mk (HM3.out.setS (.bool true))
              clear kd0 kd1 kd2 kd3 kt0 kt1 kt2 zt0 zt1 zt2
              generalize (((wg.setCell ⟨gs, 0, none⟩ (.bool true)).setCell ⟨gs, 1, none⟩ (.slice b2 s.f1.length f2)).setCell ⟨gs, 2, none⟩ (.slice b3 s.f2.length f3)) = wh at HS4 ⊢
              have kd0 : wh.cell? ⟨gd, 0, none⟩ = some (.int .i64 (1)) := (blk_cell HS4.out.hd 0).trans rfl
              have kd1 : wh.cell? ⟨gd, 1, none⟩ = some (.bool true) := (blk_cell HS4.out.hd 1).trans rfl
              have kd2 : wh.cell? ⟨gd, 2, none⟩ = some (.slice b2 s.f1.length f2) := (blk_cell HS4.out.hd 2).trans rfl
              have kd3 : wh.cell? ⟨gd, 3, none⟩ = some (.slice b3 s.f2.length f3) := (blk_cell HS4.out.hd 3).trans rfl
              go_wp2_with (at_builtin; refine Kd.S_append k48 (w0 := w) w.heap.size rfl (.tmp 38) (.tmp 40) 38 48 (.agg #[.int .i64 0, .bool false, .slice none 0 0, .slice none 0 0]) 64 rfl Try.underlying38 info48 rfl (by decide) (by decide) u6 (runTo n l es j) ⟨1, ⟨true, s.f1, s.f2⟩⟩ [.int .i64 (1), .bool true, (.slice b2 s.f1.length f2), (.slice b3 s.f2.length f3)] (fun _ => True) (okp (.slice b2 s.f1.length f2) (.slice b3 s.f2.length f3)) rfl rfl (HS4.out.elem (1) true) (fun k hk => ⟨trivial, HS4.out.okp_ne hk⟩) (fun _ _ => trivial) HS4.out.rest HS4.out.hB HS4.out.hB.size (by rw [runTo_length]; have := HE.out; omega) ?_; intro vn wn hsn hbn hgn _; have SN := Aside0.mk (HS4.out.fin2 hsn hbn hgn); clear hsn hbn hgn)
              go_roundg gk
              case measure => omega
              case rel => exact ⟨j + 1, congrArg (Value.int .i64) (wrap_succ (by have := HE.out; omega)), ⟨by have := HJ.out; omega⟩, _, _, ⟨by rw [HSU.out, HRU.out, HST.out]; exact SN.out⟩⟩
            | true =>
              have HO := Aside0.mk hok
              clear hok
              have HST := Aside0.mk (show runStep n l s x = ⟨doCode l s.f1 s.f2 x.f0 x.f1, ⟨true, doSecs l s.f1 s.f2 x.f0 x.f1 x.f2, doDead l s.f1 s.f2 x.f0 x.f1⟩⟩ by unfold runStep; rw [if_pos HO.out])
              have hc1 : (doCode l s.f1 s.f2 x.f0 x.f1 == 1) = false := beq_eq_false_iff_ne.mpr (doCode_ne _ _ _ _ _)
              generalize hcd : doCode l s.f1 s.f2 x.f0 x.f1 = code at hc1 HST
              have HCD := Aside0.mk hcd
              clear hcd
              go_upto_region 9 with (first | (go_at_call 69; refine (sdo_is n A c l true a1 d1 s.f1 a2 d2 s.f2 x.f0 x.f1 x.f2 _ (Kd.C_below HR.out SX.out.hB) HC.out (Kd.V_reads' SX.out.V1).2.2 (Kd.V_reads' SX.out.V1).2.1 (Kd.V_reads' SX.out.V2).2.2 (Kd.V_reads' SX.out.V2).2.1 HSO2.out HO.out).mono ?_; rw [HCD.out]; rintro e wd ⟨v2, v3, rfl, r1, r2, hb⟩; obtain ⟨b4, f4, rfl⟩ := Kd.R_slice r1; obtain ⟨b5, f5, rfl⟩ := Kd.R_slice r2; have NR1 := Aside0.mk (Kd.R_lower r1 BX.out.size); have NR2 := Aside0.mk (Kd.R_lower r2 BX.out.size); have B9 := Aside0.mk (below_step BX.out hb); clear hb r1 r2) | ((with_reducible refine gate_dst (N := 9) rfl ?_); refine box_event ?hg (N := 9) ?hd (cs := #[.int .i64 0, .bool false, .slice none 0 0, .slice none 0 0]) (t := 48) ?hr ?_; (case hd => rfl); (case hg => rfl); (case hr => first | (go_simp; done) | (go_simp; rfl)); intro gd ed wb kd bd; have KD := Aside0.mk kd; have ED := Aside0.mk ed; have BD := Aside0.mk bd; have zd0 := blk_frozen kd 0; have zd1 := blk_frozen kd 1; have zd2 := blk_frozen kd 2; have zd3 := blk_frozen kd 3; have kd0 := (blk_cell kd 0).trans (show _ = some (Value.int .i64 0) from rfl); have kd1 := (blk_cell kd 1).trans (show _ = some (Value.bool false) from rfl); have kd2 := (blk_cell kd 2).trans (show _ = some (Value.slice none 0 0) from rfl); have kd3 := (blk_cell kd 3).trans (show _ = some (Value.slice none 0 0) from rfl); clear kd ed bd))
              have GD := Aside0.mk (show wr.heap.size ≤ gd by rw [ED.out]; exact B9.out.size)
              have HM3 := Aside0.mk (ST.out.midB (code := code) (b := true) (below_step B9.out BD.out) KD.out GD.out (R_up NR1.out BD.out) (R_up NR2.out BD.out)).1
              clear kl0 kl1 ks0 ks1 ks2 ke0 ke1 ke2 kd0 kd1 kd2 kd3 zd0 zd1 zd2 zd3 KD BD B9 ED SX NR1 NR2
              generalize ((((wb.setCell ⟨gd, 0, none⟩ (.int .i64 code)).setCell ⟨gd, 1, none⟩ (.bool true)).setCell ⟨gd, 2, none⟩ (.slice b4 (doSecs l s.f1 s.f2 x.f0 x.f1 x.f2).length f4)).setCell ⟨gd, 3, none⟩ (.slice b5 (doDead l s.f1 s.f2 x.f0 x.f1).length f5)) = wg at HM3 ⊢
              have kd0 : wg.cell? ⟨gd, 0, none⟩ = some (.int .i64 code) := (blk_cell HM3.out.hd 0).trans rfl
              have kd1 : wg.cell? ⟨gd, 1, none⟩ = some (.bool true) := (blk_cell HM3.out.hd 1).trans rfl
              have kd2 : wg.cell? ⟨gd, 2, none⟩ = some (.slice b4 (doSecs l s.f1 s.f2 x.f0 x.f1 x.f2).length f4) := (blk_cell HM3.out.hd 2).trans rfl
              have kd3 : wg.cell? ⟨gd, 3, none⟩ = some (.slice b5 (doDead l s.f1 s.f2 x.f0 x.f1).length f5) := (blk_cell HM3.out.hd 3).trans rfl
              go_upto_region 11 with fail
              clear kd0 kd1 kd2 kd3
              have kd0 : wg.cell? ⟨gd, 0, none⟩ = some (.int .i64 (code)) := (blk_cell HM3.out.hd 0).trans rfl
              have kd1 : wg.cell? ⟨gd, 1, none⟩ = some (.bool true) := (blk_cell HM3.out.hd 1).trans rfl
              have kd2 : wg.cell? ⟨gd, 2, none⟩ = some (.slice b4 (doSecs l s.f1 s.f2 x.f0 x.f1 x.f2).length f4) := (blk_cell HM3.out.hd 2).trans rfl
              have kd3 : wg.cell? ⟨gd, 3, none⟩ = some (.slice b5 (doDead l s.f1 s.f2 x.f0 x.f1).length f5) := (blk_cell HM3.out.hd 3).trans rfl
              have kt0 : wg.cell? ⟨gs, 0, none⟩ = some (.bool true) := (blk_cell HM3.out.hs 0).trans rfl
              have kt1 : wg.cell? ⟨gs, 1, none⟩ = some (.slice a1 s.f1.length d1) := (blk_cell HM3.out.hs 1).trans rfl
              have kt2 : wg.cell? ⟨gs, 2, none⟩ = some (.slice a2 s.f2.length d2) := (blk_cell HM3.out.hs 2).trans rfl
              have zt0 := blk_frozen HM3.out.hs 0
              have zt1 := blk_frozen HM3.out.hs 1
              have zt2 := blk_frozen HM3.out.hs 2
              go_upto_region 12 with fail
              have HS4 := Aside0.mk (HM3.out.setS (.bool true))
              clear kd0 kd1 kd2 kd3 kt0 kt1 kt2 zt0 zt1 zt2
              generalize (((wg.setCell ⟨gs, 0, none⟩ (.bool true)).setCell ⟨gs, 1, none⟩ (.slice b4 (doSecs l s.f1 s.f2 x.f0 x.f1 x.f2).length f4)).setCell ⟨gs, 2, none⟩ (.slice b5 (doDead l s.f1 s.f2 x.f0 x.f1).length f5)) = wh at HS4 ⊢
              have kd0 : wh.cell? ⟨gd, 0, none⟩ = some (.int .i64 (code)) := (blk_cell HS4.out.hd 0).trans rfl
              have kd1 : wh.cell? ⟨gd, 1, none⟩ = some (.bool true) := (blk_cell HS4.out.hd 1).trans rfl
              have kd2 : wh.cell? ⟨gd, 2, none⟩ = some (.slice b4 (doSecs l s.f1 s.f2 x.f0 x.f1 x.f2).length f4) := (blk_cell HS4.out.hd 2).trans rfl
              have kd3 : wh.cell? ⟨gd, 3, none⟩ = some (.slice b5 (doDead l s.f1 s.f2 x.f0 x.f1).length f5) := (blk_cell HS4.out.hd 3).trans rfl
              go_wp2_with (at_builtin; refine Kd.S_append k48 (w0 := w) w.heap.size rfl (.tmp 38) (.tmp 40) 38 48 (.agg #[.int .i64 0, .bool false, .slice none 0 0, .slice none 0 0]) 64 rfl Try.underlying38 info48 rfl (by decide) (by decide) u6 (runTo n l es j) ⟨code, ⟨true, doSecs l s.f1 s.f2 x.f0 x.f1 x.f2, doDead l s.f1 s.f2 x.f0 x.f1⟩⟩ [.int .i64 (code), .bool true, (.slice b4 (doSecs l s.f1 s.f2 x.f0 x.f1 x.f2).length f4), (.slice b5 (doDead l s.f1 s.f2 x.f0 x.f1).length f5)] (fun _ => True) (okp (.slice b4 (doSecs l s.f1 s.f2 x.f0 x.f1 x.f2).length f4) (.slice b5 (doDead l s.f1 s.f2 x.f0 x.f1).length f5)) rfl rfl (HS4.out.elem (code) true) (fun k hk => ⟨trivial, HS4.out.okp_ne hk⟩) (fun _ _ => trivial) HS4.out.rest HS4.out.hB HS4.out.hB.size (by rw [runTo_length]; have := HE.out; omega) ?_; intro vn wn hsn hbn hgn _; have SN := Aside0.mk (HS4.out.fin2 hsn hbn hgn); clear hsn hbn hgn)
              go_roundg gk
              case measure => omega
              case rel => exact ⟨j + 1, congrArg (Value.int .i64) (wrap_succ (by have := HE.out; omega)), ⟨by have := HJ.out; omega⟩, _, _, ⟨by rw [HSU.out, HRU.out, HST.out]; exact SN.out⟩⟩
        · have hlt' : decide ((j : Int) < (es.length : Int)) = false := decide_eq_false (by omega)
          have hj : j = es.length := by have := HJ.out; omega
          have HRN := Aside0.mk (show runTo n l es j = run n l es by rw [run, if_pos ⟨HL.out, HE.out⟩, hj])
          clear hj
          go_wp2_with fail
          go_ret
          exact ⟨_, rfl, HRN.out ▸ ST.out.HS, ST.out.hB⟩
    · skip
      have b0 : (layoutOk n l != 0) = false := bne_eq_false_iff_eq.mpr hl
      have b1 : decide ((es.length : Int) > 2000) = true := decide_eq_true (by omega)
      have HV := Aside0.mk (show ([] : List S48) = run n l es by rw [run, if_neg (fun h => he h.2)])
      clear hl he
      go_enter Try.func28, Try.ntmps28
      go_wp2_with (first | ((with_reducible refine gate_dst (N := 2) rfl ?_); refine box_event ?hg (N := 2) ?hd (cs := #[.int .i64 n, .slice A l.length c]) (t := 30) ?hr ?_; (case hd => rfl); (case hg => rfl); (case hr => first | (go_simp; done) | (go_simp; rfl)); intro gl el wl kl bl; have hcz0 := (blk_cell kl 0).trans (show _ = some (Value.int .i64 n) from rfl); have hcz1 := (blk_cell kl 1).trans (show _ = some (Value.slice A l.length c) from rfl); have KL := Aside0.mk kl; have BL := Aside0.mk bl; have GL := Aside0.mk (show w.heap.size ≤ gl by rw [el]; exact Nat.le_refl _); clear kl bl el) | (go_at_call 23; refine (slay_is (Kd.C_below HR.out BL.out) HC.out).mono ?_; rintro e w1 ⟨rfl, hb⟩; have KL := Aside0.mk (blk_below KL.out hb); have BL := Aside0.mk (below_step BL.out hb); clear hb; have hcy0 := (blk_cell KL.out 0).trans (show _ = some (Value.int .i64 n) from rfl); have hcy1 := (blk_cell KL.out 1).trans (show _ = some (Value.slice A l.length c) from rfl)))
      go_ret
      exact ⟨_, rfl, HV.out ▸ Kd.S_nil _ _ _ _ _, BL.out⟩
  · skip
    have b0 : (layoutOk n l != 0) = true := bne_iff_ne.mpr hl
    have HV := Aside0.mk (show ([] : List S48) = run n l es by rw [run, if_neg (fun h => hl h.1)])
    clear hl
    go_enter Try.func28, Try.ntmps28
    go_wp2_with (first | ((with_reducible refine gate_dst (N := 2) rfl ?_); refine box_event ?hg (N := 2) ?hd (cs := #[.int .i64 n, .slice A l.length c]) (t := 30) ?hr ?_; (case hd => rfl); (case hg => rfl); (case hr => first | (go_simp; done) | (go_simp; rfl)); intro gl el wl kl bl; have hcz0 := (blk_cell kl 0).trans (show _ = some (Value.int .i64 n) from rfl); have hcz1 := (blk_cell kl 1).trans (show _ = some (Value.slice A l.length c) from rfl); have KL := Aside0.mk kl; have BL := Aside0.mk bl; have GL := Aside0.mk (show w.heap.size ≤ gl by rw [el]; exact Nat.le_refl _); clear kl bl el) | (go_at_call 23; refine (slay_is (Kd.C_below HR.out BL.out) HC.out).mono ?_; rintro e w1 ⟨rfl, hb⟩; have KL := Aside0.mk (blk_below KL.out hb); have BL := Aside0.mk (below_step BL.out hb); clear hb; have hcy0 := (blk_cell KL.out 0).trans (show _ = some (Value.int .i64 n) from rfl); have hcy1 := (blk_cell KL.out 1).trans (show _ = some (Value.slice A l.length c) from rfl)))
    go_ret
    exact ⟨_, rfl, HV.out ▸ Kd.S_nil _ _ _ _ _, BL.out⟩
end Go.Proofs.Ytpdnabhpkdchjaa.P
namespace Go.Proofs.Ytpdnabhpkdchjaa.WalkFnSweep
open P Go Go.RowKit Go.Proofs.YtpdnabhpkdchjaaW.PrintWords Go.Proofs.YtpdnabhpkdchjaaW.PrintLast Go.Proofs.YtpdnabhpkdchjaaW.PrintMore
set_option linter.unusedVariables false
set_option linter.unusedSimpArgs false
def sw_T16 : Bool × List (List Nat × List Nat) := (true, [([], []), ([], []), ([], []), ([1, 2], [1, 2]), ([], []), ([3, 4, 3], [3, 4]), ([0, 5, 5], [0, 5]), ([6, 6, 0, 1, 2, 3, 4, 5, 6], [6])])
def sw_B16 : List Nat := [0, 0, 0, 6, 0, 30, 63, 127]
theorem sw_tab16 : rtab .any (opsOf Try.f21 16) = sw_T16 := by kernel_rfl
theorem sw_bits16 : waitsOk sw_T16.2 sw_B16 = true := by kernel_rfl
def sw_T18 : Bool × List (List Nat × List Nat) := (true, [([], []), ([], []), ([], []), ([1, 2], [1, 2]), ([], []), ([3, 4, 3], [3, 4]), ([0, 5, 5], [0, 5]), ([6, 6, 0, 1, 2, 3, 4, 5, 6], [6])])
def sw_B18 : List Nat := [0, 0, 0, 6, 0, 30, 63, 127]
theorem sw_tab18 : rtab .any (opsOf Try.f21 18) = sw_T18 := by kernel_rfl
theorem sw_bits18 : waitsOk sw_T18.2 sw_B18 = true := by kernel_rfl
def sw_T40 : Bool × List (List Nat × List Nat) := (true, [([], []), ([], []), ([], []), ([], []), ([2, 3], [2, 3]), ([], []), ([4, 5, 4], [4, 5]), ([1, 6, 6], [1, 6]), ([0, 7, 7], [0, 7]), ([8, 8, 0, 1, 2, 3, 4, 5, 6, 7, 8], [8])])
def sw_B40 : List Nat := [0, 0, 0, 0, 12, 0, 60, 126, 255, 511]
theorem sw_tab40 : rtab .any (opsOf Try.f21 40) = sw_T40 := by kernel_rfl
theorem sw_bits40 : waitsOk sw_T40.2 sw_B40 = true := by kernel_rfl
theorem pass_at {n : Int} {A A1 A2 : Option Addr} {c c1 c2 : Nat} {l : List S88} {ps : List S143} {ax : List Int} {fr tt : Int} {w : World} {es : List S56} (h : passing n l ps ax fr tt = es) (hp : ps.length ≤ 1048576) (ha : ax.length ≤ 1048576) (hr : Kd.C k88 w A l.length l) (hc : l.length ≤ c) (hr1 : Kd.C k143 w A1 ps.length ps) (hc1 : ps.length ≤ c1) (hr2 : Kd.C (Kd.int .i64) w A2 ax.length ax) (hc2 : ax.length ≤ c2) :
    Calls Try.prog 75 #[.agg #[.int .i64 n, .slice A l.length c], .slice A1 ps.length c1, .slice A2 ax.length c2, .int .i64 fr, .int .i64 tt] w fun e w' => ∃ v0_ : Value, e = .returned v0_ ∧ Kd.R k56 56 w' w.heap.size (fun _ => True) v0_ es ∧ Below w.heap.size w w' := h ▸ ipassing_is n A c l A1 c1 ps A2 c2 ax fr tt w hr hc hr1 hc1 hr2 hc2 hp ha
structure StT (w0 wx : World) (gl : Nat) (n : Int) (Al Ap Aa : Option Addr) (cl cp ca : Nat) (lc : List S88) (pc : List S143) (ax : List Int) : Prop where
  rl : Kd.C k88 wx Al lc.length lc
  cl_ : lc.length ≤ cl
  rp : Kd.C k143 wx Ap pc.length pc
  cp_ : pc.length ≤ cp
  ra : Kd.C (Kd.int .i64) wx Aa ax.length ax
  ca_ : ax.length ≤ ca
  kl : wx.heap[gl]? = some (.cells #[.int .i64 n, .slice Al lc.length cl] 30 (0, 0))
  bb : Below w0.heap.size w0 wx
theorem StT.nx {w0 wx w2 : World} {gl : Nat} {n : Int} {Al Ap Aa : Option Addr} {cl cp ca : Nat} {lc : List S88} {pc : List S143} {ax : List Int} (h : StT w0 wx gl n Al Ap Aa cl cp ca lc pc ax) (hb : Below wx.heap.size wx w2) : StT w0 w2 gl n Al Ap Aa cl cp ca lc pc ax :=
  ⟨Kd.C_below h.rl hb, h.cl_, Kd.C_below h.rp hb, h.cp_, Kd.C_below h.ra hb, h.ca_, blk_below h.kl hb, below_step h.bb hb⟩
theorem box2t {w : World} {g : Nat} {a b : Value} {t : TypeId} (h : w.heap[g]? = some (.cells #[a, b] t (0, 0))) : w.cell? ⟨g, 0, none⟩ = some a ∧ w.cell? ⟨g, 1, none⟩ = some b  := by
  have h0 := blk_cell h 0
  have h1 := blk_cell h 1
  exact ⟨h0, h1⟩
structure SwT (w0 wP wx : World) (gl : Nat) (n : Int) (Al Ap Aa : Option Addr) (cl cp ca : Nat) (lc : List S88) (pc : List S143) (ax : List Int) (v : Value) (L : List S56) : Prop where
  st : StT w0 wP gl n Al Ap Aa cl cp ca lc pc ax
  bb : Below wP.heap.size wP wx
  r : Kd.R k56 56 wx wP.heap.size (fun _ => True) v L
section
variable {w0 wP wx w2 : World} {gl : Nat} {n : Int} {Al Ap Aa : Option Addr} {cl cp ca : Nat} {lc : List S88} {pc : List S143} {ax : List Int} {v : Value} {L : List S56}
theorem SwT.cur (h : SwT w0 wP wx gl n Al Ap Aa cl cp ca lc pc ax v L) : StT w0 wx gl n Al Ap Aa cl cp ca lc pc ax := h.st.nx h.bb
theorem SwT.nx (h : SwT w0 wP wx gl n Al Ap Aa cl cp ca lc pc ax v L) (hb : Below wx.heap.size wx w2) : SwT w0 wP w2 gl n Al Ap Aa cl cp ca lc pc ax v L := ⟨h.st, below_step h.bb hb, Kd.R_below h.r hb⟩
end
theorem pass3_at {n : Int} {A A1 : Option Addr} {c c1 : Nat} {l : List S88} {ps : List S143} {fr tt : Int} {w : World} {es : List S56} (h : passing n l ps [0, 9, 12] fr tt = es) (hp : ps.length ≤ 1048576) (hr : Kd.C k88 w A l.length l) (hc : l.length ≤ c) (hr1 : Kd.C k143 w A1 ps.length ps) (hc1 : ps.length ≤ c1) (A2 : Option Addr) (hr2 : Kd.C (Kd.int .i64) w A2 3 [0, 9, 12]) :
    Calls Try.prog 75 #[.agg #[.int .i64 n, .slice A l.length c], .slice A1 ps.length c1, .slice A2 3 3, .int .i64 fr, .int .i64 tt] w fun e w' => ∃ v0_ : Value, e = .returned v0_ ∧ Kd.R k56 56 w' w.heap.size (fun _ => True) v0_ es ∧ Below w.heap.size w w' :=
  pass_at (ax := [0, 9, 12]) h hp (by decide) hr hc hr1 hc1 hr2 (Nat.le_refl 3)
theorem own_three (W : World) (a b c : Int) : Kd.R (Kd.int .i64) 3 (W.alloc (.cells #[.int .i64 a, .int .i64 b, .int .i64 c] 3)) W.heap.size (fun _ => True) (.slice (some ⟨W.heap.size, 0, none⟩) 3 3) [a, b, c] :=
  ⟨fun _ _ => trivial, OwnRow.lit W W.heap.size (show Reps ((Kd.int .i64).M _ _ _) 1 [a, b, c] [.int .i64 a, .int .i64 b, .int .i64 c] from Kd.reps_scalar (enc := Value.int .i64) [a, b, c]) (Nat.le_refl _) (by simp)⟩
theorem own_two (W : World) (x y : S56) : Kd.R k56 56 (W.alloc (.cells #[.int .i64 x.f0, .int .i64 x.f1, .int .i64 x.f2, .int .i64 y.f0, .int .i64 y.f1, .int .i64 y.f2] 56)) W.heap.size (fun _ => True) (.slice (some ⟨W.heap.size, 0, none⟩) 2 2) [x, y] :=
  ⟨fun _ _ => trivial, OwnRow.lit W W.heap.size (Reps.c3 (show Kd.M k56 _ _ _ x [.int .i64 x.f0, .int .i64 x.f1, .int .i64 x.f2] from (k56_mkM _ _ _ x)) (Reps.c3 (show Kd.M k56 _ _ _ y [.int .i64 y.f0, .int .i64 y.f1, .int .i64 y.f2] from (k56_mkM _ _ _ y)) (Reps.none _ _))) (Nat.le_refl _) (by simp)⟩
set_option maxHeartbeats 32000000 in
set_option maxRecDepth 100000 in
theorem walk (A : Option Addr) (c : Nat) (code : List Int) (w : World) (hr : Kd.C (Kd.int .u8) w A code.length code) (hc : code.length ≤ c) (hby : ∀ x ∈ code, 0 ≤ x ∧ x < 256) :
    Calls Try.prog 21 #[.slice A code.length c] w fun e w' => e = .returned (.bool true) ∧ Below w.heap.size w w' := by
  by_cases hbig : 1048576 < code.length
  · have hb1 : decide ((1048576 : Int) < (code.length : Int)) = true := decide_eq_true (by omega)
    clear hbig
    go_enter Try.func21, Try.ntmps21
    go_wp2_with fail
    go_ret
    exact ⟨rfl, Below.refl _ _⟩
  have hb1 : decide ((1048576 : Int) < (code.length : Int)) = false := decide_eq_false (by omega)
  obtain ⟨nn, k, K, nm, km, lc, pc, ax, ea, eb, es, l1, l2, lf, gf, T0⟩ := sw_facts hby
  have T := Aside0.mk T0
  have s1 := T.out.s1
  have s2 := T.out.s2
  have s3 := T.out.s3
  have s4 := T.out.s4
  have ne0 := T.out.ne
  have ne1 : decide (nm = 0) = false := decide_eq_false ne0
  have ne2 : (nm == 0) = false := by simp [ne0]
  clear T0
  have MD := Aside0.mk (fun (w' : World) => (show Calls Try.prog 74 #[.int .i64 (nn : Int), .int .i64 50] w' fun e w2 => ∃ v1_ v2_ : Value, e = .returned (.tuple #[.agg #[.int .i64 (nn : Int), v1_], v2_]) ∧ Kd.R k88 88 w2 w'.heap.size (fun _ => True) v1_ lc ∧ Kd.R k143 143 w2 w'.heap.size (fun _ => True) v2_ pc ∧ Below w'.heap.size w' w2 by rw [T.out.lc_, T.out.pc_]; exact made_is nn 50 w' (by have := T.out.n6; omega) (by decide) (by decide)))
  have WB := Aside0.mk (fun (w' : World) (h : Below w.heap.size w w') (i : Int) (hi : 0 ≤ i) => wB_is w' (Kd.C_below hr h) hc hby hi)
  have B0 := Aside0.mk (Below.refl w.heap.size w)
  clear hbig hr hc hby
  go_enter Try.func21, Try.ntmps21
  go_upto_region 4 with (go_at_call 64; refine (WB.out _ B0.out 0 (by decide)).mono ?_; rintro e w1 ⟨rfl, hb⟩; have B1 := Aside0.mk (below_step B0.out hb); clear hb)
  go_upto_region 5 with (go_at_call 64; refine (WB.out _ B1.out 1 (by decide)).mono ?_; rintro e w2 ⟨rfl, hb⟩; have B2 := Aside0.mk (below_step B1.out hb); clear hb)
  clear s1 s2 ne0 ne1 ne2
  go_upto_region 6 with (first | (go_at_call 74; refine (MD.out _).mono ?_; rintro e w3 ⟨v1_, v2_, rfl, ho1, ho2, hb⟩; obtain ⟨Al, cl, rfl⟩ := Kd.R_slice ho1; obtain ⟨Ap, cp, rfl⟩ := Kd.R_slice ho2; have RL := Aside0.mk ho1; have RP := Aside0.mk ho2; have B3 := Aside0.mk (below_step B2.out hb); clear ho1 ho2 hb) | ((with_reducible refine gate_dst (N := 5) rfl ?_); refine box_event ?hg (N := 5) ?hd (cs := #[.int .i64 0, .slice none 0 0]) (t := 30) ?hr ?_; (case hd => rfl); (case hg => rfl); (case hr => first | (go_simp; done) | (go_simp; rfl)); intro gl el wl kl bl; have EL := Aside0.mk el; have KL := Aside0.mk kl; have BL := Aside0.mk bl; clear el kl bl; have kl0 : wl.cell? ⟨gl, 0, none⟩ = some (.int .i64 0) := (blk_cell KL.out 0).trans rfl; have zkl0 := blk_frozen KL.out 0; have kl1 : wl.cell? ⟨gl, 1, none⟩ = some (.slice none 0 0) := (blk_cell KL.out 1).trans rfl; have zkl1 := blk_frozen KL.out 1))
  have FX := Aside0.mk (fill2m (y0 := .int .i64 (nn : Int)) (y1 := .slice Al lc.length cl) KL.out BL.out (Nat.le_of_eq EL.out.symm))
  clear kl0 zkl0 kl1 zkl1 KL BL EL
  generalize ((wl.setCell ⟨gl, 0, none⟩ (.int .i64 (nn : Int))).setCell ⟨gl, 1, none⟩ (.slice Al lc.length cl)) = w4 at FX ⊢
  have RL := Aside0.mk (show Kd.C k88 w4 Al lc.length lc ∧ lc.length ≤ cl from ⟨Kd.C_below (Kd.R_reads' RL.out).2.2 FX.out.1, (Kd.R_reads' RL.out).2.1⟩)
  have RP := Aside0.mk (show Kd.C k143 w4 Ap pc.length pc ∧ pc.length ≤ cp from ⟨Kd.C_below (Kd.R_reads' RP.out).2.2 FX.out.1, (Kd.R_reads' RP.out).2.1⟩)
  have B4 := Aside0.mk (below_step B3.out FX.out.1)
  have KL := Aside0.mk FX.out.2
  clear FX MD B0 B1 B2 B3 s3
  go_wp2_with fail
  go_loopg [7, 8] (K + 1) (fun kq v7 v8 w' => ∃ i : Nat, v8 = .int .i64 (i : Int) ∧ Aside0 (i + kq = K + 1) ∧ Aside0 (Kd.R (Kd.int .i64) 3 w' w4.heap.size (fun _ => True) v7 (axK i)) ∧ Aside0 (Below w4.heap.size w4 w'))
  case atStart => exact ⟨0, rfl, ⟨by omega⟩, ⟨Kd.R_nil _ _ _ _ _⟩, ⟨Below.refl _ _⟩⟩
  case round =>
    obtain ⟨i, rfl, HI, HO, HB⟩ := hrel
    by_cases hlt : i ≤ K
    · obtain ⟨go1, rfl⟩ : ∃ g, gk = g + 1 := ⟨gk - 1, by have := HI.out; omega⟩
      have hlt' : decide ((i : Int) ≤ (K : Int)) = true := decide_eq_true (by omega)
      have I30 := Aside0.mk (show i ≤ 29 by have := T.out.k29; omega)
      obtain ⟨ti, hti⟩ : ∃ ti : Int, ti = 3 * (i : Int) := ⟨_, rfl⟩
      obtain ⟨ii, hii⟩ : ∃ ii : Int, ii = (i : Int) := ⟨_, rfl⟩
      have r1 : wrap64 (3 * ii) = ti := by rw [hii, hti]; exact w_small (by omega) (by have := I30.out; omega)
      have r2 : wrap64 (ii + 1) = ((i + 1 : Nat) : Int) := by rw [hii]; exact (w_small (by omega) (by have := I30.out; omega)).trans (by omega)
      have AXS := Aside0.mk (show axK (i + 1) = axK i ++ [ti] by rw [axK_succ, hti])
      have AL := Aside0.mk (show (axK i).length ≤ 30 by rw [axK_len]; have := I30.out; omega)
      rw [← hii] at hlt' ⊢
      have R2 := Aside0.mk r2
      clear hlt hti hii r2
      go_upto_region 10 with (go_at_call 64; refine (WB.out _ (below_step B4.out HB.out) 2 (by decide)).mono ?_; rintro e w6 ⟨rfl, hb⟩; have HO := Aside0.mk (Kd.R_below HO.out hb); have HB := Aside0.mk (below_step HB.out hb); clear hb)
      go_upto_region 9 with (at_builtin; refine Kd.R_append (Kd.int .i64) (w0 := w4) w4.heap.size rfl (.tmp 44) (.tmp 47) 59 3 (.int .i64 0) 8 rfl Try.underlying59 info3 rfl (by decide) (by decide) u7 (axK i) ti [.int .i64 ti] (fun _ => True) (fun _ => False) rfl rfl (by first | rfl | exact ⟨rfl⟩) (fun k hk => hk.elim) (fun _ _ => trivial) HO.out HB.out HB.out.size (by have := AL.out; omega) ?_; intro vn wn hsn hbn hgn _; have HN := Aside0.mk hsn; have HBN := Aside0.mk hbn; clear hsn hbn hgn)
      clear r1 hlt'
      go_wp2_with fail
      go_roundg go1
      case measure => omega
      case rel => exact ⟨i + 1, congrArg (Value.int .i64) R2.out, ⟨by have := HI.out; omega⟩, ⟨by rw [AXS.out]; exact HN.out⟩, HBN⟩
    · have hik : i = K + 1 := by have := HI.out; omega
      have hlt' : decide ((i : Int) ≤ (K : Int)) = false := decide_eq_false (by omega)
      have RA := Aside0.mk (show Kd.R (Kd.int .i64) 3 wr w4.heap.size (fun _ => True) u7 ax by rw [T.out.ax_, ← hik]; exact HO.out)
      obtain ⟨Aa, ca, e⟩ := Kd.R_slice RA.out
      subst e
      have SS := Aside0.mk (show StT w wr gl nn Al Ap Aa cl cp ca lc pc ax from ⟨Kd.C_below RL.out.1 HB.out, RL.out.2, Kd.C_below RP.out.1 HB.out, RP.out.2, (Kd.R_reads' RA.out).2.2, (Kd.R_reads' RA.out).2.1, blk_below KL.out HB.out, below_step B4.out HB.out⟩)
      clear hik RA RL RP KL HB HO HI
      have LN := Aside0.mk (show pc.length ≤ 1048576 ∧ ax.length ≤ 1048576 by have := T.out.len; have := T.out.n6; have := T.out.k29; omega)
      go_upto_region 11 with (go_at_call 64; refine (WB.out _ SS.out.bb 2 (by decide)).mono ?_; rintro e wP ⟨rfl, hb⟩; have SS := Aside0.mk (SS.out.nx hb); clear hb)
      clear s4 hlt hlt'
      obtain ⟨kl0, kl1⟩ := box2t SS.out.kl
      go_upto_region 12 with (go_at_call 75; refine (pass_at T.out.pa LN.out.1 LN.out.2 SS.out.rl SS.out.cl_ SS.out.rp SS.out.cp_ SS.out.ra SS.out.ca_).mono ?_; rintro e w12 ⟨v12, rfl, ho, hb⟩; have X := Aside0.mk (SwT.mk SS.out hb ho); clear ho hb kl0 kl1; obtain ⟨kl0, kl1⟩ := box2t X.out.cur.kl)
      have Z := Aside0.mk T.out.lens
      go_upto_region 13 with (at_builtin; refine Kd.R_append k56 (w0 := wP) wP.heap.size rfl (.tmp 53) (.tmp 56) 35 56 (.agg #[(.int .i64 0), (.int .i64 0), (.int .i64 0)]) 24 rfl Try.underlying35 info56 rfl (by decide) (by decide) v12 ea ⟨3, (k : Int), 0⟩ [.int .i64 3, .int .i64 (k : Int), .int .i64 0] (fun _ => True) (fun _ => False) rfl rfl (k56_mkM _ _ _ ⟨3, (k : Int), 0⟩) (fun k hk => hk.elim) (fun _ _ => trivial) X.out.r X.out.bb X.out.bb.size (by have := Z.out; simp; omega) ?_; intro v13 w13 ho hb _ _; have X := Aside0.mk (SwT.mk X.out.st hb ho); clear ho hb kl0 kl1; obtain ⟨kl0, kl1⟩ := box2t X.out.cur.kl)
      go_upto_region 14 with (first | (go_at_call 75; refine (pass_at T.out.pb LN.out.1 LN.out.2 X.out.cur.rl X.out.cur.cl_ X.out.cur.rp X.out.cur.cp_ X.out.cur.ra X.out.cur.ca_).mono ?_; rintro e w14 ⟨v62, rfl, ho, hb⟩; obtain ⟨A62, c62, rfl⟩ := Kd.R_slice ho; have R62 := Aside0.mk (Kd.R_reads' ho).2.2; have X := Aside0.mk (X.out.nx hb); clear ho hb kl0 kl1; obtain ⟨kl0, kl1⟩ := box2t X.out.cur.kl) | (at_builtin; refine Kd.R_append_rows k56 (w0 := wP) wP.heap.size rfl (.tmp 58) (.tmp 62) 35 56 (.agg #[(.int .i64 0), (.int .i64 0), (.int .i64 0)]) 24 rfl Try.underlying35 info56 rfl (by decide) (by decide) v13 (ea ++ [⟨3, (k : Int), 0⟩]) eb _ _ _ (fun _ => True) (fun _ => False) rfl rfl X.out.r R62.out (fun _ _ h => h) (fun _ h => h.elim) (fun _ _ => trivial) X.out.bb X.out.bb.size (by have := Z.out; simp; omega) ?_; intro v14 w15 ho hb _ _; have X := Aside0.mk (SwT.mk X.out.st hb ho); clear ho hb kl0 kl1; obtain ⟨kl0, kl1⟩ := box2t X.out.cur.kl))
      go_upto_region 15 with (at_builtin; refine Kd.R_append k56 (w0 := wP) wP.heap.size rfl (.tmp 64) (.tmp 67) 35 56 (.agg #[(.int .i64 0), (.int .i64 0), (.int .i64 0)]) 24 rfl Try.underlying35 info56 rfl (by decide) (by decide) v14 ((ea ++ [⟨3, (k : Int), 0⟩]) ++ eb) ⟨4, (k : Int), 0⟩ [.int .i64 4, .int .i64 (k : Int), .int .i64 0] (fun _ => True) (fun _ => False) rfl rfl (k56_mkM _ _ _ ⟨4, (k : Int), 0⟩) (fun k hk => hk.elim) (fun _ _ => trivial) X.out.r X.out.bb X.out.bb.size (by have := Z.out; simp; omega) ?_; intro v15 w16 ho hb _ _; have X := Aside0.mk (SwT.mk X.out.st hb ho); clear ho hb kl0 kl1; obtain ⟨kl0, kl1⟩ := box2t X.out.cur.kl)
      rw [← T.out.l1_] at X
      go_upto_region 16 with (go_at_call 75; refine (pass3_at T.out.p2 LN.out.1 (X.out.cur.nx (below_alloc (Below.refl _ _) _)).rl X.out.cur.cl_ (X.out.cur.nx (below_alloc (Below.refl _ _) _)).rp X.out.cur.cp_ _ (Kd.R_reads' (own_three w16 0 9 12)).2.2).mono ?_; rintro e w17 ⟨v17, rfl, ho, hb⟩; obtain ⟨A10, c10, rfl⟩ := Kd.R_slice ho; have N9 := Aside0.mk (fun q hq => Nat.lt_of_lt_of_le (Kd.R_lt X.out.r q hq) (below_alloc (Below.refl _ _) (.cells #[.int .i64 0, .int .i64 9, .int .i64 12] 3)).size); have X := Aside0.mk ((X.out.nx (below_alloc (Below.refl _ _) _)).nx hb); have RE1 := Aside0.mk ho; clear ho hb kl0 kl1; obtain ⟨kl0, kl1⟩ := box2t X.out.cur.kl)
      clear kl0 kl1
      obtain ⟨kl0, kl1⟩ := box2t X.out.cur.kl
      clear LN
      go_upto_region 16 with fail
      have B95 := Aside0.mk (below_drew1 (Below.refl w17.heap.size w17))
      have X := Aside0.mk (X.out.nx B95.out)
      have RE1 := Aside0.mk (Kd.R_below RE1.out B95.out)
      clear kl0 kl1 B95
      refine start_ (n := 8) (S := fun w' => w'.cell? ⟨gl, 0, none⟩ = some (.int .i64 (nn : Int)) ∧ w'.cell? ⟨gl, 1, none⟩ = some (.slice Al lc.length cl)) (ds := []) #[false, false, false, false, false, false, false, false] (by kernel_rfl) rfl rfl (box2t X.out.cur.kl) (fun hHeld => ?_)
      refine with_tabW sw_tab16 sw_bits16 (fun HT_ HW_ => ?_)
      generalize w17.drew = w95 at X RE1 hHeld ⊢
      have BW := Aside0.mk (Below.refl w95.heap.size w95)
      obtain ⟨A9, c9, e9⟩ := Kd.R_slice X.out.r
      subst e9
      refine take_ (i := 0) (N := some 73) (v := ?_) (a' := ?_) #[true, false, false, false, false, false, false, false] rfl rfl (take_ofW HT_.out HW_.out (by kernel_rfl)) (fun _ _ _ h => h) (Or.inl ⟨by rfl, ?_⟩) hHeld ?_ ?_
      rotate_left
      · rintro w' ⟨s0, s1⟩
        go_simp
        with_reducible rfl
      rotate_left
      · simp only [Act.put, List.setIfInBounds_toArray, List.set_cons_zero, List.set_cons_succ, i64_w, i32_w]
        rfl
      refine pure_ (i := 2) (N := some 75) (v := ?_) (a' := ?_) #[true, false, true, false, false, false, false, false] rfl rfl (any_of HT_.out (by kernel_rfl)) (fun _ _ _ h => h) (Or.inl ⟨by rfl, ?_⟩) ?_ ?_
      rotate_left
      · intro w'
        go_simp
        with_reducible rfl
      rotate_left
      · simp only [Act.put, List.setIfInBounds_toArray, List.set_cons_zero, List.set_cons_succ, i64_w, i32_w]
        rfl
      refine pure_ (i := 4) (N := some 77) (v := ?_) (a' := ?_) #[true, false, true, false, true, false, false, false] rfl rfl (any_of HT_.out (by kernel_rfl)) (fun _ _ _ h => h) (Or.inl ⟨by rfl, ?_⟩) ?_ ?_
      rotate_left
      · intro w'
        go_simp
        with_reducible rfl
      rotate_left
      · simp only [Act.put, List.setIfInBounds_toArray, List.set_cons_zero, List.set_cons_succ, i64_w, i32_w]
        rfl
      refine one_ (i := 1) (N := some 74) #[true, true, true, false, true, false, false, false] rfl rfl (one_of HT_.out (by kernel_rfl)) (by decide) (fun K hK => ?_)
      refine Kd.R_lit_step k56 (w0 := w95) w95.heap.size 56 ?hg (N := 74) ?hd (xs := ([] : List S56)) (inner := []) (ok := fun _ => True) (okp := fun _ => False) ?hr ?hp (fun _ _ => trivial) trivial BW.out (below_size BW.out) (by simp) ?_; (case hd => rfl); (case hg => rfl); (case hr => first | (go_simp; done) | (go_simp; rfl)); (case hp => exact (Reps.none _ _))
      intro v5 w5 ho hb _ _
      have RO := Aside0.mk ho
      have BW := Aside0.mk hb
      refine hK.out _ _ (box2t (X.out.cur.nx BW.out).kl) (fun hHeld => ?_)
      clear ho hb
      clear hK K
      refine norm_ (a' := ?_) ?_ ?_
      rotate_left
      · show Act.put _ (some 74) _ = _
        simp only [Act.put, List.setIfInBounds_toArray, List.set_cons_zero, List.set_cons_succ, i64_w, i32_w]
        rfl
      refine one_ (i := 3) (N := some 76) #[true, true, true, true, true, false, false, false] rfl rfl (one_of HT_.out (by kernel_rfl)) (by decide) (fun K hK => ?_)
      refine Kd.R_append_rows_step k56 (w0 := w95) w95.heap.size (by rfl) (.tmp 74) (.tmp 75) 35 56 (.agg #[(.int .i64 0), (.int .i64 0), (.int .i64 0)]) 24 rfl Try.underlying35 info56 rfl (by decide) (by omega) v5 [] l1 _ _ _ (fun _ => True) (fun _ => False) rfl rfl RO.out (Kd.C_below (Kd.R_reads' X.out.r).2.2 BW.out) (fun x cs h => h) (fun _ h => h.elim) (fun _ _ => trivial) BW.out (below_size BW.out) (by have := Z.out; simp; omega) ?_
      intro v6 w6 ho hb _ _
      have RO := Aside0.mk ho
      have BW := Aside0.mk hb
      refine hK.out _ _ (box2t (X.out.cur.nx BW.out).kl) (fun hHeld => ?_)
      clear ho hb
      clear hK K
      refine norm_ (a' := ?_) ?_ ?_
      rotate_left
      · show Act.put _ (some 76) _ = _
        simp only [Act.put, List.setIfInBounds_toArray, List.set_cons_zero, List.set_cons_succ, i64_w, i32_w]
        rfl
      refine one_ (i := 5) (N := some 78) #[true, true, true, true, true, true, false, false] rfl rfl (one_of HT_.out (by kernel_rfl)) (by decide) (fun K hK => ?_)
      refine Kd.R_append_rows_step k56 (w0 := w95) w95.heap.size (by rfl) (.tmp 76) (.tmp 77) 35 56 (.agg #[(.int .i64 0), (.int .i64 0), (.int .i64 0)]) 24 rfl Try.underlying35 info56 rfl (by decide) (by omega) v6 ([] ++ l1) es _ _ _ (fun _ => True) (fun _ => False) rfl rfl RO.out (Kd.C_below (Kd.R_reads' RE1.out).2.2 BW.out) (fun x cs h => h) (fun _ h => h.elim) (fun _ _ => trivial) BW.out (below_size BW.out) (by have := Z.out; simp; omega) ?_
      intro v7 w7 ho hb _ _
      rw [List.nil_append, ← T.out.lf_] at ho
      obtain ⟨A7, c7, rfl⟩ := Kd.R_slice ho
      have RO := Aside0.mk ho
      have BW := Aside0.mk hb
      refine hK.out _ _ (box2t (X.out.cur.nx BW.out).kl) (fun hHeld => ?_)
      clear ho hb
      clear hK K
      refine norm_ (a' := ?_) ?_ ?_
      rotate_left
      · show Act.put _ (some 78) _ = _
        simp only [Act.put, List.setIfInBounds_toArray, List.set_cons_zero, List.set_cons_succ, i64_w, i32_w]
        rfl
      refine one_ (i := 6) (N := some 79) #[true, true, true, true, true, true, true, false] rfl rfl (one_of HT_.out (by kernel_rfl)) (by decide) (fun K hK => ?_)
      refine goes_ Try.func29 (by kernel_rfl) rfl #[.agg #[.int .i64 (nn : Int), .slice Al lc.length cl], .slice A7 lf.length c7] (by rfl) rfl rfl (by (try simp only [List.map_toArray, List.map_cons, List.map_nil]); first | done | rfl) ?_
      with_reducible refine (run_is (nn : Int) _ _ lc _ _ lf _ (X.out.cur.nx BW.out).rl (X.out.cur.nx BW.out).cl_ (Kd.R_reads' RO.out).2.2 (Kd.R_reads' RO.out).2.1).mono ?_
      rintro e w8 ⟨v8, rfl, hs, hq⟩
      refine ⟨_, rfl, ?_⟩
      obtain ⟨A11, c11, rfl⟩ := Kd.S_slice hs
      have RF := Aside0.mk hs
      have BW := Aside0.mk (below_step BW.out hq)
      refine hK.out _ _ (box2t (X.out.cur.nx BW.out).kl) (fun hHeld => ?_)
      clear hs hq
      clear hK K
      refine norm_ (a' := ?_) ?_ ?_
      rotate_left
      · show Act.put _ (some 79) _ = _
        simp only [Act.put, List.setIfInBounds_toArray, List.set_cons_zero, List.set_cons_succ, i64_w, i32_w]
        rfl
      refine pure_ (i := 7) (N := some 11) (v := ?_) (a' := ?_) #[true, true, true, true, true, true, true, true] rfl rfl (any_of HT_.out (by kernel_rfl)) (fun _ _ _ h => h) (Or.inl ⟨by rfl, ?_⟩) ?_ ?_
      rotate_left
      · intro w'
        go_simp
        with_reducible rfl
      rotate_left
      · simp only [Act.put, List.setIfInBounds_toArray, List.set_cons_zero, List.set_cons_succ, i64_w, i32_w]
        rfl
      refine done_ (done_of HT_.out (by kernel_rfl)) ?_
      have X := Aside0.mk (X.out.nx BW.out)
      have RE1 := Aside0.mk (Kd.R_below RE1.out BW.out)
      clear hHeld HT_ HW_ RO
      obtain ⟨kl0, kl1⟩ := box2t X.out.cur.kl
      obtain ⟨rf, hrf⟩ : ∃ rf, rf = run (nn : Int) lc lf := ⟨_, rfl⟩
      rw [← hrf] at RF ⊢
      have HRF := Aside0.mk hrf
      clear hrf BW
      have s5 := T.out.s5
      go_upto_region 18 with (at_builtin; refine Kd.R_append_rows k56 (w0 := wP) wP.heap.size rfl (.tmp 80) (.tmp 86) 35 56 (.agg #[(.int .i64 0), (.int .i64 0), (.int .i64 0)]) 24 rfl Try.underlying35 info56 rfl (by decide) (by decide) (.slice A9 l1.length c9) l1 [⟨5, km, 0⟩, ⟨5, (k : Int), 0⟩] _ _ _ (fun _ => True) (fun _ => False) rfl rfl (Kd.R_below X.out.r (below_alloc (Below.refl _ _) _)) (Kd.R_reads' (own_two w8 ⟨5, km, 0⟩ ⟨5, (k : Int), 0⟩)).2.2 (fun _ _ h => h) (fun _ h => h.elim) (fun _ _ => trivial) (below_step X.out.bb (below_alloc (Below.refl _ _) _)) (below_step X.out.bb (below_alloc (Below.refl _ _) _)).size (by have := Z.out; simp; omega) ?_; intro v18 w18 ho hb hg _; have RE1 := Aside0.mk (Kd.R_grown2 (Kd.R_below RE1.out (below_alloc (Below.refl _ _) _)) rfl hg (fun q hq e => absurd (Kd.R_base RE1.out q e.symm) (Nat.not_le.2 (N9.out q hq)))); have RF := Aside0.mk (Kd.S_over' (Kd.S_below RF.out (below_alloc (Below.refl _ _) _)) (Kd.R_typed (Kd.R_below X.out.r (below_alloc (Below.refl _ _) _))) (by decide) hg); have X := Aside0.mk (SwT.mk X.out.st hb ho); clear ho hb hg kl0 kl1; obtain ⟨kl0, kl1⟩ := box2t X.out.cur.kl)
      rw [← T.out.l2_] at X
      clear s5 N9
      go_upto_region 18 with fail
      have B95 := Aside0.mk (below_drew1 (Below.refl w18.heap.size w18))
      have X := Aside0.mk (X.out.nx B95.out)
      have RE1 := Aside0.mk (Kd.R_below RE1.out B95.out)
      have RF := Aside0.mk (Kd.S_below RF.out B95.out)
      clear kl0 kl1 B95
      refine start_ (n := 8) (S := fun w' => w'.cell? ⟨gl, 0, none⟩ = some (.int .i64 (nn : Int)) ∧ w'.cell? ⟨gl, 1, none⟩ = some (.slice Al lc.length cl)) (ds := []) #[false, false, false, false, false, false, false, false] (by kernel_rfl) rfl rfl (box2t X.out.cur.kl) (fun hHeld => ?_)
      refine with_tabW sw_tab18 sw_bits18 (fun HT_ HW_ => ?_)
      generalize w18.drew = w95 at X RE1 RF hHeld ⊢
      have BW := Aside0.mk (Below.refl w95.heap.size w95)
      obtain ⟨A19, c19, e9⟩ := Kd.R_slice X.out.r
      subst e9
      refine take_ (i := 0) (N := some 88) (v := ?_) (a' := ?_) #[true, false, false, false, false, false, false, false] rfl rfl (take_ofW HT_.out HW_.out (by kernel_rfl)) (fun _ _ _ h => h) (Or.inl ⟨by rfl, ?_⟩) hHeld ?_ ?_
      rotate_left
      · rintro w' ⟨s0, s1⟩
        go_simp
        with_reducible rfl
      rotate_left
      · simp only [Act.put, List.setIfInBounds_toArray, List.set_cons_zero, List.set_cons_succ, i64_w, i32_w]
        rfl
      refine pure_ (i := 2) (N := some 90) (v := ?_) (a' := ?_) #[true, false, true, false, false, false, false, false] rfl rfl (any_of HT_.out (by kernel_rfl)) (fun _ _ _ h => h) (Or.inl ⟨by rfl, ?_⟩) ?_ ?_
      rotate_left
      · intro w'
        go_simp
        with_reducible rfl
      rotate_left
      · simp only [Act.put, List.setIfInBounds_toArray, List.set_cons_zero, List.set_cons_succ, i64_w, i32_w]
        rfl
      refine pure_ (i := 4) (N := some 92) (v := ?_) (a' := ?_) #[true, false, true, false, true, false, false, false] rfl rfl (any_of HT_.out (by kernel_rfl)) (fun _ _ _ h => h) (Or.inl ⟨by rfl, ?_⟩) ?_ ?_
      rotate_left
      · intro w'
        go_simp
        with_reducible rfl
      rotate_left
      · simp only [Act.put, List.setIfInBounds_toArray, List.set_cons_zero, List.set_cons_succ, i64_w, i32_w]
        rfl
      refine one_ (i := 1) (N := some 89) #[true, true, true, false, true, false, false, false] rfl rfl (one_of HT_.out (by kernel_rfl)) (by decide) (fun K hK => ?_)
      refine Kd.R_lit_step k56 (w0 := w95) w95.heap.size 56 ?hg (N := 89) ?hd (xs := ([] : List S56)) (inner := []) (ok := fun _ => True) (okp := fun _ => False) ?hr ?hp (fun _ _ => trivial) trivial BW.out (below_size BW.out) (by simp) ?_; (case hd => rfl); (case hg => rfl); (case hr => first | (go_simp; done) | (go_simp; rfl)); (case hp => exact (Reps.none _ _))
      intro v5 w5 ho hb _ _
      have RO := Aside0.mk ho
      have BW := Aside0.mk hb
      refine hK.out _ _ (box2t (X.out.cur.nx BW.out).kl) (fun hHeld => ?_)
      clear ho hb
      clear hK K
      refine norm_ (a' := ?_) ?_ ?_
      rotate_left
      · show Act.put _ (some 89) _ = _
        simp only [Act.put, List.setIfInBounds_toArray, List.set_cons_zero, List.set_cons_succ, i64_w, i32_w]
        rfl
      refine one_ (i := 3) (N := some 91) #[true, true, true, true, true, false, false, false] rfl rfl (one_of HT_.out (by kernel_rfl)) (by decide) (fun K hK => ?_)
      refine Kd.R_append_rows_step k56 (w0 := w95) w95.heap.size (by rfl) (.tmp 89) (.tmp 90) 35 56 (.agg #[(.int .i64 0), (.int .i64 0), (.int .i64 0)]) 24 rfl Try.underlying35 info56 rfl (by decide) (by omega) v5 [] l2 _ _ _ (fun _ => True) (fun _ => False) rfl rfl RO.out (Kd.C_below (Kd.R_reads' X.out.r).2.2 BW.out) (fun x cs h => h) (fun _ h => h.elim) (fun _ _ => trivial) BW.out (below_size BW.out) (by have := Z.out; simp; omega) ?_
      intro v6 w6 ho hb _ _
      have RO := Aside0.mk ho
      have BW := Aside0.mk hb
      refine hK.out _ _ (box2t (X.out.cur.nx BW.out).kl) (fun hHeld => ?_)
      clear ho hb
      clear hK K
      refine norm_ (a' := ?_) ?_ ?_
      rotate_left
      · show Act.put _ (some 91) _ = _
        simp only [Act.put, List.setIfInBounds_toArray, List.set_cons_zero, List.set_cons_succ, i64_w, i32_w]
        rfl
      refine one_ (i := 5) (N := some 93) #[true, true, true, true, true, true, false, false] rfl rfl (one_of HT_.out (by kernel_rfl)) (by decide) (fun K hK => ?_)
      refine Kd.R_append_rows_step k56 (w0 := w95) w95.heap.size (by rfl) (.tmp 91) (.tmp 92) 35 56 (.agg #[(.int .i64 0), (.int .i64 0), (.int .i64 0)]) 24 rfl Try.underlying35 info56 rfl (by decide) (by omega) v6 ([] ++ l2) es _ _ _ (fun _ => True) (fun _ => False) rfl rfl RO.out (Kd.C_below (Kd.R_reads' RE1.out).2.2 BW.out) (fun x cs h => h) (fun _ h => h.elim) (fun _ _ => trivial) BW.out (below_size BW.out) (by have := Z.out; simp; omega) ?_
      intro v7 w7 ho hb _ _
      rw [List.nil_append, ← T.out.gf_] at ho
      obtain ⟨A7, c7, rfl⟩ := Kd.R_slice ho
      have RO := Aside0.mk ho
      have BW := Aside0.mk hb
      refine hK.out _ _ (box2t (X.out.cur.nx BW.out).kl) (fun hHeld => ?_)
      clear ho hb
      clear hK K
      refine norm_ (a' := ?_) ?_ ?_
      rotate_left
      · show Act.put _ (some 93) _ = _
        simp only [Act.put, List.setIfInBounds_toArray, List.set_cons_zero, List.set_cons_succ, i64_w, i32_w]
        rfl
      refine one_ (i := 6) (N := some 94) #[true, true, true, true, true, true, true, false] rfl rfl (one_of HT_.out (by kernel_rfl)) (by decide) (fun K hK => ?_)
      refine goes_ Try.func29 (by kernel_rfl) rfl #[.agg #[.int .i64 (nn : Int), .slice Al lc.length cl], .slice A7 gf.length c7] (by rfl) rfl rfl (by (try simp only [List.map_toArray, List.map_cons, List.map_nil]); first | done | rfl) ?_
      with_reducible refine (run_is (nn : Int) _ _ lc _ _ gf _ (X.out.cur.nx BW.out).rl (X.out.cur.nx BW.out).cl_ (Kd.R_reads' RO.out).2.2 (Kd.R_reads' RO.out).2.1).mono ?_
      rintro e w8 ⟨v8, rfl, hs, hq⟩
      refine ⟨_, rfl, ?_⟩
      obtain ⟨A12, c12, rfl⟩ := Kd.S_slice hs
      have RG := Aside0.mk hs
      have BW := Aside0.mk (below_step BW.out hq)
      refine hK.out _ _ (box2t (X.out.cur.nx BW.out).kl) (fun hHeld => ?_)
      clear hs hq
      clear hK K
      refine norm_ (a' := ?_) ?_ ?_
      rotate_left
      · show Act.put _ (some 94) _ = _
        simp only [Act.put, List.setIfInBounds_toArray, List.set_cons_zero, List.set_cons_succ, i64_w, i32_w]
        rfl
      refine pure_ (i := 7) (N := some 12) (v := ?_) (a' := ?_) #[true, true, true, true, true, true, true, true] rfl rfl (any_of HT_.out (by kernel_rfl)) (fun _ _ _ h => h) (Or.inl ⟨by rfl, ?_⟩) ?_ ?_
      rotate_left
      · intro w'
        go_simp
        with_reducible rfl
      rotate_left
      · simp only [Act.put, List.setIfInBounds_toArray, List.set_cons_zero, List.set_cons_succ, i64_w, i32_w]
        rfl
      refine done_ (done_of HT_.out (by kernel_rfl)) ?_
      have X := Aside0.mk (X.out.nx BW.out)
      have RE1 := Aside0.mk (Kd.R_below RE1.out BW.out)
      have RF := Aside0.mk (Kd.S_below RF.out BW.out)
      clear hHeld HT_ HW_ RO
      obtain ⟨kl0, kl1⟩ := box2t X.out.cur.kl
      obtain ⟨rg, hrg⟩ : ∃ rg, rg = run (nn : Int) lc gf := ⟨_, rfl⟩
      rw [← hrg] at RG ⊢
      have HRG := Aside0.mk hrg
      clear hrg BW
      obtain ⟨ad, ado, M0, MI, GL, FL, Am, Az, Ao, cm, cz, co, sm, sz, so, d0, d1, eA, eB, G0⟩ := sw_got T.out RG.out RF.out HRG.out HRF.out
      subst eA
      subst eB
      have G := Aside0.mk G0
      clear G0 kl0 kl1
      have a1 := G.out.a1
      have a2 := G.out.a2
      have a3 := bne_self_eq_false (rg.length : Int)
      have a4 := G.out.a4
      have a8 := bne_self_eq_false (nn : Int)
      have hnf := G.out.hnf
      have hng := G.out.hng
      have q0 := G.out.q0
      have q1 := G.out.q1
      have xm2 := G.out.xm2
      go_upto_region 20 with fail
      rw [a1]
      clear a1
      go_upto_region 22 with fail
      clear a2 a3 a4
      have a5 := G.out.a5
      have a6 := G.out.a6
      have q2 := G.out.q2
      have q3 := G.out.q3
      have q4 := G.out.q4
      have q5 := G.out.q5
      have xz2 := G.out.xz2
      have xo2 := G.out.xo2
      go_upto_region 24 with fail
      clear a5 a6 q2 q3 q4 q5 xz2 xo2
      have a7 := G.out.a7
      have q6 := G.out.q6
      have q7 := G.out.q7
      go_cut [181] from 138 to 181 (fun v181 wx => v181 = .bool false ∧ w8 = wx)
      case first =>
        have x00 := G.out.x00
        have xm0 := G.out.xm0
        rcases G.out.cod0 with e0 | e0 <;> rcases G.out.cod1 with e1 | e1 <;> (rw [e0] at x00; rw [e1] at xm0; clear e0 e1; go_wp2_with fail; go_meet; exact ⟨rfl, rfl⟩)
      case rest =>
        obtain ⟨rfl, hw⟩ := hcut
        subst hw
        clear xm2 q6 q7
        go_wp2_with fail
        go_loopg [184] nn (fun kq v184 w' => ∃ i : Nat, v184 = .int .i64 (i : Int) ∧ Aside0 (i + kq = nn) ∧ w8 = w')
        case atStart => exact ⟨0, rfl, ⟨by omega⟩, rfl⟩
        case round =>
          obtain ⟨i2, rfl, HI2, hw⟩ := hrel
          subst hw
          by_cases hit : i2 < nn
          · obtain ⟨go2, rfl⟩ : ∃ g, gk = g + 1 := ⟨gk - 1, by have := HI2.out; omega⟩
            have hit' : decide ((i2 : Int) < (nn : Int)) = true := decide_eq_true (by omega)
            have r0 : (0 : Int) ≤ (i2 : Int) := by omega
            have r1 : (i2 : Int) < (nn : Int) := by omega
            obtain ⟨adx, e, x0, -, -, -, -⟩ := at_T50 G.out.go_ (i2 : Int) r0 r1
            subst e
            rw [Int.toNat_natCast] at x0
            have HOLD := Aside0.mk (G.out.old i2 hit)
            have W3 := Aside0.mk (show wrap64 ((i2 : Int) + 1) = ((i2 + 1 : Nat) : Int) from (w_small (by omega) (by have := T.out.n6; omega)).trans (by omega))
            have NX := Aside0.mk (show i2 + 1 + go2 = nn by have := HI2.out; omega)
            generalize (rd_T50 so (i2 : Int)).f0 = td at x0 HOLD
            by_cases c1 : i2 = k
            · have e : td = 1 := HOLD.out.2 (.inl c1)
              subst e
              subst c1
              go_wp2_with fail
              go_roundg go2
              case measure => omega
              case rel => exact ⟨i2 + 1, congrArg (Value.int .i64) W3.out, NX, rfl⟩
            · by_cases c2 : i2 + 1 = k
              · have e : td = 1 := HOLD.out.2 (.inr c2)
                subst e
                have s5 : wrap64 ((k : Int) - 1) = (i2 : Int) := T.out.s5.trans (by rw [T.out.km_]; omega)
                have b1 : ((i2 : Int) == (k : Int)) = false := by simp; omega
                clear c2
                go_wp2_with fail
                go_roundg go2
                case measure => omega
                case rel => exact ⟨i2 + 1, congrArg (Value.int .i64) W3.out, NX, rfl⟩
              · have e : td ≠ 1 := fun q => (HOLD.out.1 q).elim c1 c2
                have s5 := T.out.s5
                have b1 : ((i2 : Int) == (k : Int)) = false := by simp; omega
                have n2 : ¬ (i2 : Int) = km := by rw [T.out.km_]; have := T.out.kk; omega
                have b2 : ((i2 : Int) == km) = false := beq_false_of_ne n2
                have b3 : (td == 1) = false := beq_false_of_ne e
                clear c2
                go_wp2_with fail
                go_roundg go2
                case measure => omega
                case rel => exact ⟨i2 + 1, congrArg (Value.int .i64) W3.out, NX, rfl⟩
          · have hit' : decide ((i2 : Int) < (nn : Int)) = false := decide_eq_false (by omega)
            go_wp2_with fail
            clear hit hit'
            go_loopg [17] 2 (fun kq v17 w' => ∃ j : Nat, v17 = .int .i64 (j : Int) ∧ Aside0 (j + kq = 2) ∧ w8 = w')
            case atStart => exact ⟨0, rfl, ⟨by omega⟩, rfl⟩
            case round =>
              obtain ⟨j, rfl, HJ, hw⟩ := hrel
              subst hw
              by_cases hjt : j < 2
              · obtain ⟨go2, rfl⟩ : ∃ g, gk = g + 1 := ⟨gk - 1, by have := HJ.out; omega⟩
                have hjt' : decide ((j : Int) < 2) = true := decide_eq_true (by omega)
                obtain ⟨a9, u0, u1⟩ := G.out.a9 j hjt
                have x := G.out.cells j hjt
                have CD := Aside0.mk (G.out.cods j hjt)
                have SW := Aside0.mk (G.out.swept j hjt)
                have KP := Aside0.mk (G.out.kept j hjt)
                obtain ⟨mj, hmj⟩ : ∃ mj, mj = M0 + j := ⟨_, rfl⟩
                obtain ⟨kj, hkj⟩ : ∃ kj, kj = k - 1 + j := ⟨_, rfl⟩
                rw [← hmj] at a9 u0 u1 x CD SW KP
                rw [← hkj] at SW KP
                have s5 := T.out.s5
                have s6 : wrap64 (km + (j : Int)) = (kj : Int) := by rw [T.out.km_]; exact (w_small (by omega) (by have := T.out.kk; have := T.out.n6; omega)).trans (by omega)
                have q0 := G.out.q0
                have q1 := G.out.q1
                have xm2 := G.out.xm2
                have r0 : (0 : Int) ≤ (kj : Int) := by omega
                have r1 : (kj : Int) < (nn : Int) := by have := T.out.kk; omega
                obtain ⟨adm, e, y0, -, -, -, -⟩ := at_T50 G.out.gm (kj : Int) r0 r1
                subst e
                obtain ⟨adz, e, z0, -, -, -, -⟩ := at_T50 G.out.gz (kj : Int) r0 r1
                subst e
                rw [Int.toNat_natCast] at y0 z0
                have W3 := Aside0.mk (show wrap64 ((j : Int) + 1) = ((j + 1 : Nat) : Int) from (w_small (by omega) (by omega)).trans (by omega))
                have NX := Aside0.mk (show j + 1 + go2 = 2 by have := HJ.out; omega)
                clear hmj hkj
                rcases CD.out with h | h
                · have t := SW.out h
                  rw [h] at x
                  rw [t.1] at y0
                  rw [t.2] at z0
                  clear t h
                  go_wp2_with fail
                  go_roundg go2
                  case measure => omega
                  case rel => exact ⟨j + 1, congrArg (Value.int .i64) (show (j : Int) + 1 = ((j + 1 : Nat) : Int) from (Int.natCast_add j 1).symm), NX, rfl⟩
                · have t := KP.out h
                  rw [h] at x
                  rw [t] at z0
                  clear t h
                  go_wp2_with fail
                  go_roundg go2
                  case measure => omega
                  case rel => exact ⟨j + 1, congrArg (Value.int .i64) (show (j : Int) + 1 = ((j + 1 : Nat) : Int) from (Int.natCast_add j 1).symm), NX, rfl⟩
              · have hjt' : decide ((j : Int) < 2) = false := decide_eq_false (by omega)
                have HRS := Aside0.mk (show rg.length ≤ 1000000000 ∧ ∀ x ∈ rg, x.f1.f1.length ≤ 1048576 ∧ x.f1.f2.length ≤ 1048576 by rw [HRG.out]; exact run_small (nn : Int) lc gf)
                obtain ⟨kl0, kl1⟩ := box2t X.out.cur.kl
                go_upto_region 40 with fail
                clear hjt hjt'
                have B95 := Aside0.mk (below_drew1 (Below.refl w8.heap.size w8))
                have X := Aside0.mk (X.out.nx B95.out)
                have RE1 := Aside0.mk (Kd.R_below RE1.out B95.out)
                have RG := Aside0.mk (Kd.S_below RG.out B95.out)
                clear kl0 kl1 B95
                refine start_ (n := 10) (S := fun w' => w'.cell? ⟨gl, 0, none⟩ = some (.int .i64 (nn : Int)) ∧ w'.cell? ⟨gl, 1, none⟩ = some (.slice Al lc.length cl)) (ds := []) #[false, false, false, false, false, false, false, false, false, false] (by kernel_rfl) rfl rfl (box2t X.out.cur.kl) (fun hHeld => ?_)
                refine with_tabW sw_tab40 sw_bits40 (fun HT_ HW_ => ?_)
                generalize w8.drew = w95 at X RE1 RG hHeld ⊢
                have BW := Aside0.mk (Below.refl w95.heap.size w95)
                refine pure_ (i := 0) (N := some 259) (v := ?_) (a' := ?_) #[true, false, false, false, false, false, false, false, false, false] rfl rfl (any_of HT_.out (by kernel_rfl)) (fun _ _ _ h => h) (Or.inl ⟨by rfl, ?_⟩) ?_ ?_
                rotate_left
                · intro w'
                  go_simp
                  with_reducible rfl
                rotate_left
                · simp only [Act.put, List.setIfInBounds_toArray, List.set_cons_zero, List.set_cons_succ, i64_w, i32_w]
                  rfl
                refine take_ (i := 1) (N := some 260) (v := ?_) (a' := ?_) #[true, true, false, false, false, false, false, false, false, false] rfl rfl (take_ofW HT_.out HW_.out (by kernel_rfl)) (fun _ _ _ h => h) (Or.inl ⟨by rfl, ?_⟩) hHeld ?_ ?_
                rotate_left
                · rintro w' ⟨s0, s1⟩
                  go_simp
                  with_reducible rfl
                rotate_left
                · simp only [Act.put, List.setIfInBounds_toArray, List.set_cons_zero, List.set_cons_succ, i64_w, i32_w]
                  rfl
                refine pure_ (i := 3) (N := some 262) (v := ?_) (a' := ?_) #[true, true, false, true, false, false, false, false, false, false] rfl rfl (any_of HT_.out (by kernel_rfl)) (fun _ _ _ h => h) (Or.inl ⟨by rfl, ?_⟩) ?_ ?_
                rotate_left
                · intro w'
                  go_simp
                  with_reducible rfl
                rotate_left
                · simp only [Act.put, List.setIfInBounds_toArray, List.set_cons_zero, List.set_cons_succ, i64_w, i32_w]
                  rfl
                refine pure_ (i := 5) (N := some 264) (v := ?_) (a' := ?_) #[true, true, false, true, false, true, false, false, false, false] rfl rfl (any_of HT_.out (by kernel_rfl)) (fun _ _ _ h => h) (Or.inl ⟨by rfl, ?_⟩) ?_ ?_
                rotate_left
                · intro w'
                  go_simp
                  with_reducible rfl
                rotate_left
                · simp only [Act.put, List.setIfInBounds_toArray, List.set_cons_zero, List.set_cons_succ, i64_w, i32_w]
                  rfl
                refine one_ (i := 2) (N := some 261) #[true, true, true, true, false, true, false, false, false, false] rfl rfl (one_of HT_.out (by kernel_rfl)) (by decide) (fun K hK => ?_)
                refine Kd.R_lit_step k56 (w0 := w95) w95.heap.size 56 ?hg (N := 261) ?hd (xs := ([] : List S56)) (inner := []) (ok := fun _ => True) (okp := fun _ => False) ?hr ?hp (fun _ _ => trivial) trivial BW.out (below_size BW.out) (by simp) ?_; (case hd => rfl); (case hg => rfl); (case hr => first | (go_simp; done) | (go_simp; rfl)); (case hp => exact (Reps.none _ _))
                intro v5 w5 ho hb _ _
                have RO := Aside0.mk ho
                have BW := Aside0.mk hb
                refine hK.out _ _ (box2t (X.out.cur.nx BW.out).kl) (fun hHeld => ?_)
                clear ho hb
                clear hK K
                refine norm_ (a' := ?_) ?_ ?_
                rotate_left
                · show Act.put _ (some 261) _ = _
                  simp only [Act.put, List.setIfInBounds_toArray, List.set_cons_zero, List.set_cons_succ, i64_w, i32_w]
                  rfl
                refine one_ (i := 4) (N := some 263) #[true, true, true, true, true, true, false, false, false, false] rfl rfl (one_of HT_.out (by kernel_rfl)) (by decide) (fun K hK => ?_)
                refine Kd.R_append_rows_step k56 (w0 := w95) w95.heap.size (by rfl) (.tmp 261) (.tmp 262) 35 56 (.agg #[(.int .i64 0), (.int .i64 0), (.int .i64 0)]) 24 rfl Try.underlying35 info56 rfl (by decide) (by omega) v5 [] l2 _ _ _ (fun _ => True) (fun _ => False) rfl rfl RO.out (Kd.C_below (Kd.R_reads' X.out.r).2.2 BW.out) (fun x cs h => h) (fun _ h => h.elim) (fun _ _ => trivial) BW.out (below_size BW.out) (by have := Z.out; simp; omega) ?_
                intro v6 w6 ho hb _ _
                have RO := Aside0.mk ho
                have BW := Aside0.mk hb
                refine hK.out _ _ (box2t (X.out.cur.nx BW.out).kl) (fun hHeld => ?_)
                clear ho hb
                clear hK K
                refine norm_ (a' := ?_) ?_ ?_
                rotate_left
                · show Act.put _ (some 263) _ = _
                  simp only [Act.put, List.setIfInBounds_toArray, List.set_cons_zero, List.set_cons_succ, i64_w, i32_w]
                  rfl
                refine one_ (i := 6) (N := some 265) #[true, true, true, true, true, true, true, false, false, false] rfl rfl (one_of HT_.out (by kernel_rfl)) (by decide) (fun K hK => ?_)
                refine Kd.R_append_rows_step k56 (w0 := w95) w95.heap.size (by rfl) (.tmp 263) (.tmp 264) 35 56 (.agg #[(.int .i64 0), (.int .i64 0), (.int .i64 0)]) 24 rfl Try.underlying35 info56 rfl (by decide) (by omega) v6 ([] ++ l2) es _ _ _ (fun _ => True) (fun _ => False) rfl rfl RO.out (Kd.C_below (Kd.R_reads' RE1.out).2.2 BW.out) (fun x cs h => h) (fun _ h => h.elim) (fun _ _ => trivial) BW.out (below_size BW.out) (by have := Z.out; simp; omega) ?_
                intro v7 w7 ho hb _ _
                rw [List.nil_append, ← T.out.gf_] at ho
                obtain ⟨A7, c7, rfl⟩ := Kd.R_slice ho
                have RO := Aside0.mk ho
                have BW := Aside0.mk hb
                refine hK.out _ _ (box2t (X.out.cur.nx BW.out).kl) (fun hHeld => ?_)
                clear ho hb
                clear hK K
                refine norm_ (a' := ?_) ?_ ?_
                rotate_left
                · show Act.put _ (some 265) _ = _
                  simp only [Act.put, List.setIfInBounds_toArray, List.set_cons_zero, List.set_cons_succ, i64_w, i32_w]
                  rfl
                refine one_ (i := 7) (N := some 266) #[true, true, true, true, true, true, true, true, false, false] rfl rfl (one_of HT_.out (by kernel_rfl)) (by decide) (fun K hK => ?_)
                refine goes_ Try.func28 (by kernel_rfl) rfl #[.agg #[.int .i64 (nn : Int), .slice Al lc.length cl], .slice A7 gf.length c7] (by rfl) rfl rfl (by (try simp only [List.map_toArray, List.map_cons, List.map_nil]); first | done | rfl) ?_
                with_reducible refine (srun_is (nn : Int) _ _ lc _ _ gf _ (X.out.cur.nx BW.out).rl (X.out.cur.nx BW.out).cl_ (Kd.R_reads' RO.out).2.2 (Kd.R_reads' RO.out).2.1).mono ?_
                rintro e w8 ⟨v8, rfl, hs, hq⟩
                refine ⟨_, rfl, ?_⟩
                rw [← HRG.out] at hs
                obtain ⟨A28, c28, rfl⟩ := Kd.S_slice hs
                have RS := Aside0.mk hs
                have BW := Aside0.mk (below_step BW.out hq)
                refine hK.out _ _ (box2t (X.out.cur.nx BW.out).kl) (fun hHeld => ?_)
                clear hs hq
                clear hK K
                refine norm_ (a' := ?_) ?_ ?_
                rotate_left
                · show Act.put _ (some 266) _ = _
                  simp only [Act.put, List.setIfInBounds_toArray, List.set_cons_zero, List.set_cons_succ, i64_w, i32_w]
                  rfl
                refine one_ (i := 8) (N := some 267) #[true, true, true, true, true, true, true, true, true, false] rfl rfl (one_of HT_.out (by kernel_rfl)) (by decide) (fun K hK => ?_)
                refine goes_ Try.func30 (by kernel_rfl) rfl #[.slice (some ad) rg.length c12, .slice A28 rg.length c28] (by rfl) rfl rfl (by (try simp only [List.map_toArray, List.map_cons, List.map_nil]); first | done | rfl) ?_
                with_reducible refine (wDone_is HRS.out.1 HRS.out.2 (Kd.S_reads' (Kd.S_below RG.out BW.out)).2.2 (Kd.S_reads' RG.out).2.1 (Kd.S_reads' RS.out).2.2 (Kd.S_reads' RS.out).2.1).mono ?_
                rintro e w9 ⟨rfl, hq⟩
                refine ⟨_, rfl, ?_⟩
                have BW := Aside0.mk (below_step BW.out hq)
                refine hK.out _ _ (box2t (X.out.cur.nx BW.out).kl) (fun hHeld => ?_)
                clear hq
                clear hK K
                refine norm_ (a' := ?_) ?_ ?_
                rotate_left
                · show Act.put _ (some 267) _ = _
                  simp only [Act.put, List.setIfInBounds_toArray, List.set_cons_zero, List.set_cons_succ, i64_w, i32_w]
                  rfl
                refine pure_ (i := 9) (N := some 2) (v := ?_) (a' := ?_) #[true, true, true, true, true, true, true, true, true, true] rfl rfl (any_of HT_.out (by kernel_rfl)) (fun _ _ _ h => h) (Or.inl ⟨by rfl, ?_⟩) ?_ ?_
                rotate_left
                · intro w'
                  go_simp
                  with_reducible rfl
                rotate_left
                · simp only [Act.put, List.setIfInBounds_toArray, List.set_cons_zero, List.set_cons_succ, i64_w, i32_w]
                  rfl
                refine done_ (done_of HT_.out (by kernel_rfl)) ?_
                have X := Aside0.mk (X.out.nx BW.out)
                have RE1 := Aside0.mk (Kd.R_below RE1.out BW.out)
                have RG := Aside0.mk (Kd.S_below RG.out BW.out)
                clear hHeld HT_ HW_ RO
                obtain ⟨kl0, kl1⟩ := box2t X.out.cur.kl
                clear kl0 kl1
                go_wp2_with fail
                go_ret
                exact ⟨rfl, X.out.cur.bb⟩
end Go.Proofs.Ytpdnabhpkdchjaa.WalkFnSweep
