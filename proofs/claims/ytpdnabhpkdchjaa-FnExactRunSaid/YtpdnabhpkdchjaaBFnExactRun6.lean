/- The statement FnExactRun holds of the given program, for every argument; there are no conditions. (Part 6 of 6.) -/
import Derived.Test.YtpdnabhpkdchjaaBFnExactRun5
import Derived.ShutString
namespace Go.Proofs.YtpdnabhpkdchjaaW.PrintLast
section
variable {P : Program} {ops : Array Oper} {Q : Exit → Act → World → Prop} {md : Region.Mode} {S : World → Prop} {ds : List Nat}
theorem AllReadyL.cons_last {fuel : Nat} {listed : Array Bool} {a : Act} {w : World} {i : Nat} {o : Oper} {rs : List Nat} (ho : ops[i]? = some o) (hd : i ∈ ds)
    (h : ∀ K' : Act → World → Prop, Shut (∀ a w, wpAnyLast P md ops Q S ds fuel (listed.setIfInBounds i true) a w → K' a w) → if Region.wanted o (yielded ops a.tmps) = true then Oper.wp P o a w K' Q else K' (a.put o.dst undef) w)
    (hs : AllReadyL P md ops Q S ds fuel listed a w rs) : AllReadyL P md ops Q S ds fuel listed a w (i :: rs) := fun j hj => by
  rcases List.mem_cons.1 hj with rfl | hj
  · exact wpOp_step ho (fun K' hK => h K' (fun a w hW => hK a w ⟨fun hn => absurd hd hn, hW⟩))
  · exact hs j hj
theorem last_ {i : Nat} {N : Option Tmp} {oi : Oper} {fuel : Nat} {l : Array Bool} {a : Act} {w : World} (l' : Array Bool) (hi : ops[i]? = some oi) (hN : oi.dst = N) (hc : readyB md ops l l' i = true) (hd : i ∈ ds)
    (h : ∀ K : Act → World → Prop, Shut (∀ a' w', wpAnyLast P md ops Q S ds fuel l' a' w' → K a' w') → if Region.wanted oi (yielded ops a.tmps) = true then Oper.wp P oi a w K Q else K (a.put N undef) w) :
    wpAnyLast P md ops Q S ds (fuel + 1) l a w := by
  subst hN
  simp only [readyB, Bool.and_eq_true, beq_iff_eq] at hc
  obtain ⟨h1, h2⟩ := hc
  subst h2
  exact wpAnyLast_ready h1 (by simp) (AllReadyL.cons_last hi hd (fun K hK => h K hK) AllReadyL.nil)
end
end Go.Proofs.YtpdnabhpkdchjaaW.PrintLast
namespace Go.Proofs.Ytpdnabhpkdchjaa.P
open Go.RowKit Go.Proofs.YtpdnabhpkdchjaaW.PrintWords Go.Proofs.YtpdnabhpkdchjaaW.PrintLast Go.Proofs.YtpdnabhpkdchjaaW.PrintMore
set_option linter.unusedVariables false
set_option linter.unusedSimpArgs false
theorem l1in_calls (x a b : Int) (w : World) : Calls Try.prog 87 #[.int .i64 x, .int .i64 a, .int .i64 b] w fun e w' => e = .returned (.bool (decide (a ≤ x) && decide (x ≤ b))) ∧ w = w' := by
  by_cases h : a ≤ x
  · have h1 : decide (x ≥ a) = true := decide_eq_true h
    rw [decide_eq_true h, Bool.true_and]
    go_enter Try.func87, Try.ntmps87
    go_wp2
    go_ret
    exact ⟨rfl, rfl⟩
  · have h1 : decide (x ≥ a) = false := decide_eq_false h
    rw [decide_eq_false h, Bool.false_and]
    go_enter Try.func87, Try.ntmps87
    go_wp2
    go_ret
    exact ⟨rfl, rfl⟩
theorem add_none (s b : Int) (v : Value) (w : World) (h : s < 0) : Calls Try.prog 118 #[v, .int .i64 s, .int .i64 b] w fun e w' => e = .returned (.tuple #[]) ∧ w = w' := by
  have h1 : decide (s < 0) = true := decide_eq_true h
  go_enter Try.func118, Try.ntmps118
  go_wp2
  refine bodyPost_ret (results_none rfl _ _ _) rfl ?_
  exact ⟨rfl, rfl⟩
set_option maxHeartbeats 4000000 in
set_option maxRecDepth 100000 in
theorem add_in (s : Int) (bo : Bool) (g gr n c : Nat) (v2 : Value) (l : List S50) (w : World) (base : Nat) (ok : Nat → Prop) (h0 : 0 ≤ s) (h1 : s < n)
    (hb : w.heap[g]? = some (.cells #[.bool bo, .slice (some ⟨gr, 0, none⟩) n c, v2] 46 (0, 0))) (HO : Kd.R k50 50 w base ok (.slice (some ⟨gr, 0, none⟩) n c) l) :
    Calls Try.prog 118 #[.pointer (some ⟨g, 0, none⟩), .int .i64 s, .int .i64 (1)] w fun e w' => e = .returned (.tuple #[]) ∧ Kd.R k50 50 w' base ok (.slice (some ⟨gr, 0, none⟩) n c) (l.set s.toNat (countS (rd_T50 l s) (1))) ∧ w.grownBy w' (some gr) := by
  obtain ⟨x0, x1, x2, x3, x4, f0, f1, f2, f3, f4⟩ := sec_at HO s h0 h1
  have hc1 : w.cell? ⟨g, 1, none⟩ = some (.slice (some ⟨gr, 0, none⟩) n c) := (blk_cell hb 1).trans rfl
  have hs : decide (s < 0) = false := decide_eq_false (by omega)
  have H0 := Aside0.mk h0
  have H1 := Aside0.mk h1
  have HO2 := Aside0.mk HO
  have hp0 := eq_true h0
  have hp1 := eq_true h1
  have ST := Aside0.mk (SecSt.start HO H0.out H1.out)
  generalize hx : rd_T50 l s = x at x0 x1 x2 x3 x4 ST ⊢
  have HX := hx
  clear hx hb h0 h1 HO HO2 HX
  by_cases q1 : -1000000 ≤ wrap64 (x.f1 + 1)
  · skip
    have Q1 := Aside0.mk q1
    clear q1
    by_cases q2 : wrap64 (x.f1 + 1) ≤ 1000000
    · skip
      have Q2 := Aside0.mk q2
      clear q2
      by_cases q3 : wrap64 (x.f1 + 1) < 0
      · skip
        have f3 : decide (wrap64 (x.f1 + 1) < 0) = true := decide_eq_true q3
        have Q3 := Aside0.mk q3
        clear q3
        rcases Bool.eq_false_or_eq_true x.f3 with q4 | q4
        · skip
          have HC := Aside0.mk (show (decide (-1000000 ≤ wrap64 (x.f1 + 1)) && decide (wrap64 (x.f1 + 1) ≤ 1000000)) = true from by have h1 := Q1.out; have h2 := Q2.out; rw [decide_eq_true h1, decide_eq_true h2]; rfl)
          go_enter Try.func118, Try.ntmps118
          go_wp2_with (go_at_call 87; refine (l1in_calls _ _ _ _).mono ?_; rintro e w' ⟨rfl, rfl⟩; rw [HC.out])
          go_wp2
          go_end0
          exact ⟨rfl, SecSt.eq (((ST.out.put1 H0.out H1.out rfl).put4 H0.out H1.out rfl).put2 H0.out H1.out rfl) (countS_eq (cnt_in (by have := Q1.out; omega) (by have := Q2.out; omega)) (by rw [decide_eq_true (by have := Q3.out; omega)]; simp) (by simp))⟩
        · have Q4 := Aside0.mk q4
          have HC := Aside0.mk (show (decide (-1000000 ≤ wrap64 (x.f1 + 1)) && decide (wrap64 (x.f1 + 1) ≤ 1000000)) = true from by have h1 := Q1.out; have h2 := Q2.out; rw [decide_eq_true h1, decide_eq_true h2]; rfl)
          go_enter Try.func118, Try.ntmps118
          go_wp2_with (go_at_call 87; refine (l1in_calls _ _ _ _).mono ?_; rintro e w' ⟨rfl, rfl⟩; rw [HC.out])
          go_wp2
          go_end0
          exact ⟨rfl, SecSt.eq (((ST.out.put1 H0.out H1.out rfl).put4 H0.out H1.out rfl).put2 H0.out H1.out rfl) (countS_eq (cnt_in (by have := Q1.out; omega) (by have := Q2.out; omega)) (by rw [decide_eq_true (by have := Q3.out; omega)]; simp) (by rw [Q4.out]; rfl))⟩
      · skip
        have f3 : decide (wrap64 (x.f1 + 1) < 0) = false := decide_eq_false q3
        have Q3 := Aside0.mk q3
        clear q3
        rcases Bool.eq_false_or_eq_true x.f3 with q4 | q4
        · skip
          have HC := Aside0.mk (show (decide (-1000000 ≤ wrap64 (x.f1 + 1)) && decide (wrap64 (x.f1 + 1) ≤ 1000000)) = true from by have h1 := Q1.out; have h2 := Q2.out; rw [decide_eq_true h1, decide_eq_true h2]; rfl)
          go_enter Try.func118, Try.ntmps118
          go_wp2_with (go_at_call 87; refine (l1in_calls _ _ _ _).mono ?_; rintro e w' ⟨rfl, rfl⟩; rw [HC.out])
          go_wp2
          go_end0
          exact ⟨rfl, SecSt.eq ((ST.out.put1 H0.out H1.out rfl).put4 H0.out H1.out rfl) (countS_eq (cnt_in (by have := Q1.out; omega) (by have := Q2.out; omega)) (by rw [decide_eq_false (by have := Q3.out; omega)]; simp) (by simp))⟩
        · have Q4 := Aside0.mk q4
          have HC := Aside0.mk (show (decide (-1000000 ≤ wrap64 (x.f1 + 1)) && decide (wrap64 (x.f1 + 1) ≤ 1000000)) = true from by have h1 := Q1.out; have h2 := Q2.out; rw [decide_eq_true h1, decide_eq_true h2]; rfl)
          go_enter Try.func118, Try.ntmps118
          go_wp2_with (go_at_call 87; refine (l1in_calls _ _ _ _).mono ?_; rintro e w' ⟨rfl, rfl⟩; rw [HC.out])
          go_wp2
          go_end0
          exact ⟨rfl, SecSt.eq ((ST.out.put1 H0.out H1.out rfl).put4 H0.out H1.out rfl) (countS_eq (cnt_in (by have := Q1.out; omega) (by have := Q2.out; omega)) (by rw [decide_eq_false (by have := Q3.out; omega)]; simp) (by rw [Q4.out]; rfl))⟩
    · skip
      have Q2 := Aside0.mk q2
      clear q2
      by_cases q3 : x.f1 < 0
      · skip
        have f3 : decide (x.f1 < 0) = true := decide_eq_true q3
        have Q3 := Aside0.mk q3
        clear q3
        rcases Bool.eq_false_or_eq_true x.f3 with q4 | q4
        · skip
          have HC := Aside0.mk (show (decide (-1000000 ≤ wrap64 (x.f1 + 1)) && decide (wrap64 (x.f1 + 1) ≤ 1000000)) = false from by have h2 := Q2.out; rw [decide_eq_false h2, Bool.and_false])
          go_enter Try.func118, Try.ntmps118
          go_wp2_with (go_at_call 87; refine (l1in_calls _ _ _ _).mono ?_; rintro e w' ⟨rfl, rfl⟩; rw [HC.out])
          go_wp2
          go_end0
          exact ⟨rfl, SecSt.eq ((ST.out.put4 H0.out H1.out rfl).put2 H0.out H1.out rfl) (countS_eq (cnt_hi (by have := Q2.out; omega)) (by rw [decide_eq_true (by have := Q3.out; omega)]; simp) (by simp))⟩
        · have Q4 := Aside0.mk q4
          have HC := Aside0.mk (show (decide (-1000000 ≤ wrap64 (x.f1 + 1)) && decide (wrap64 (x.f1 + 1) ≤ 1000000)) = false from by have h2 := Q2.out; rw [decide_eq_false h2, Bool.and_false])
          go_enter Try.func118, Try.ntmps118
          go_wp2_with (go_at_call 87; refine (l1in_calls _ _ _ _).mono ?_; rintro e w' ⟨rfl, rfl⟩; rw [HC.out])
          go_wp2
          go_end0
          exact ⟨rfl, SecSt.eq ((ST.out.put4 H0.out H1.out rfl).put2 H0.out H1.out rfl) (countS_eq (cnt_hi (by have := Q2.out; omega)) (by rw [decide_eq_true (by have := Q3.out; omega)]; simp) (by rw [Q4.out]; rfl))⟩
      · skip
        have f3 : decide (x.f1 < 0) = false := decide_eq_false q3
        have Q3 := Aside0.mk q3
        clear q3
        rcases Bool.eq_false_or_eq_true x.f3 with q4 | q4
        · skip
          have HC := Aside0.mk (show (decide (-1000000 ≤ wrap64 (x.f1 + 1)) && decide (wrap64 (x.f1 + 1) ≤ 1000000)) = false from by have h2 := Q2.out; rw [decide_eq_false h2, Bool.and_false])
          go_enter Try.func118, Try.ntmps118
          go_wp2_with (go_at_call 87; refine (l1in_calls _ _ _ _).mono ?_; rintro e w' ⟨rfl, rfl⟩; rw [HC.out])
          go_wp2
          go_end0
          exact ⟨rfl, SecSt.eq (ST.out.put4 H0.out H1.out rfl) (countS_eq (cnt_hi (by have := Q2.out; omega)) (by rw [decide_eq_false (by have := Q3.out; omega)]; simp) (by simp))⟩
        · have Q4 := Aside0.mk q4
          have HC := Aside0.mk (show (decide (-1000000 ≤ wrap64 (x.f1 + 1)) && decide (wrap64 (x.f1 + 1) ≤ 1000000)) = false from by have h2 := Q2.out; rw [decide_eq_false h2, Bool.and_false])
          go_enter Try.func118, Try.ntmps118
          go_wp2_with (go_at_call 87; refine (l1in_calls _ _ _ _).mono ?_; rintro e w' ⟨rfl, rfl⟩; rw [HC.out])
          go_wp2
          go_end0
          exact ⟨rfl, SecSt.eq (ST.out.put4 H0.out H1.out rfl) (countS_eq (cnt_hi (by have := Q2.out; omega)) (by rw [decide_eq_false (by have := Q3.out; omega)]; simp) (by rw [Q4.out]; rfl))⟩
  · skip
    have Q1 := Aside0.mk q1
    clear q1
    by_cases q3 : x.f1 < 0
    · skip
      have f3 : decide (x.f1 < 0) = true := decide_eq_true q3
      have Q3 := Aside0.mk q3
      clear q3
      rcases Bool.eq_false_or_eq_true x.f3 with q4 | q4
      · skip
        have HC := Aside0.mk (show (decide (-1000000 ≤ wrap64 (x.f1 + 1)) && decide (wrap64 (x.f1 + 1) ≤ 1000000)) = false from by have h1 := Q1.out; rw [decide_eq_false h1, Bool.false_and])
        go_enter Try.func118, Try.ntmps118
        go_wp2_with (go_at_call 87; refine (l1in_calls _ _ _ _).mono ?_; rintro e w' ⟨rfl, rfl⟩; rw [HC.out])
        go_wp2
        go_end0
        exact ⟨rfl, SecSt.eq ((ST.out.put4 H0.out H1.out rfl).put2 H0.out H1.out rfl) (countS_eq (cnt_lo (by have := Q1.out; omega)) (by rw [decide_eq_true (by have := Q3.out; omega)]; simp) (by simp))⟩
      · have Q4 := Aside0.mk q4
        have HC := Aside0.mk (show (decide (-1000000 ≤ wrap64 (x.f1 + 1)) && decide (wrap64 (x.f1 + 1) ≤ 1000000)) = false from by have h1 := Q1.out; rw [decide_eq_false h1, Bool.false_and])
        go_enter Try.func118, Try.ntmps118
        go_wp2_with (go_at_call 87; refine (l1in_calls _ _ _ _).mono ?_; rintro e w' ⟨rfl, rfl⟩; rw [HC.out])
        go_wp2
        go_end0
        exact ⟨rfl, SecSt.eq ((ST.out.put4 H0.out H1.out rfl).put2 H0.out H1.out rfl) (countS_eq (cnt_lo (by have := Q1.out; omega)) (by rw [decide_eq_true (by have := Q3.out; omega)]; simp) (by rw [Q4.out]; rfl))⟩
    · skip
      have f3 : decide (x.f1 < 0) = false := decide_eq_false q3
      have Q3 := Aside0.mk q3
      clear q3
      rcases Bool.eq_false_or_eq_true x.f3 with q4 | q4
      · skip
        have HC := Aside0.mk (show (decide (-1000000 ≤ wrap64 (x.f1 + 1)) && decide (wrap64 (x.f1 + 1) ≤ 1000000)) = false from by have h1 := Q1.out; rw [decide_eq_false h1, Bool.false_and])
        go_enter Try.func118, Try.ntmps118
        go_wp2_with (go_at_call 87; refine (l1in_calls _ _ _ _).mono ?_; rintro e w' ⟨rfl, rfl⟩; rw [HC.out])
        go_wp2
        go_end0
        exact ⟨rfl, SecSt.eq (ST.out.put4 H0.out H1.out rfl) (countS_eq (cnt_lo (by have := Q1.out; omega)) (by rw [decide_eq_false (by have := Q3.out; omega)]; simp) (by simp))⟩
      · have Q4 := Aside0.mk q4
        have HC := Aside0.mk (show (decide (-1000000 ≤ wrap64 (x.f1 + 1)) && decide (wrap64 (x.f1 + 1) ≤ 1000000)) = false from by have h1 := Q1.out; rw [decide_eq_false h1, Bool.false_and])
        go_enter Try.func118, Try.ntmps118
        go_wp2_with (go_at_call 87; refine (l1in_calls _ _ _ _).mono ?_; rintro e w' ⟨rfl, rfl⟩; rw [HC.out])
        go_wp2
        go_end0
        exact ⟨rfl, SecSt.eq (ST.out.put4 H0.out H1.out rfl) (countS_eq (cnt_lo (by have := Q1.out; omega)) (by rw [decide_eq_false (by have := Q3.out; omega)]; simp) (by rw [Q4.out]; rfl))⟩
set_option maxHeartbeats 4000000 in
set_option maxRecDepth 100000 in
theorem add_out (s : Int) (bo : Bool) (g gr n c : Nat) (v2 : Value) (l : List S50) (w : World) (base : Nat) (ok : Nat → Prop) (h0 : 0 ≤ s) (h1 : s < n)
    (hb : w.heap[g]? = some (.cells #[.bool bo, .slice (some ⟨gr, 0, none⟩) n c, v2] 46 (0, 0))) (HO : Kd.R k50 50 w base ok (.slice (some ⟨gr, 0, none⟩) n c) l) :
    Calls Try.prog 118 #[.pointer (some ⟨g, 0, none⟩), .int .i64 s, .int .i64 (-1)] w fun e w' => e = .returned (.tuple #[]) ∧ Kd.R k50 50 w' base ok (.slice (some ⟨gr, 0, none⟩) n c) (l.set s.toNat (countS (rd_T50 l s) (-1))) ∧ w.grownBy w' (some gr) := by
  obtain ⟨x0, x1, x2, x3, x4, f0, f1, f2, f3, f4⟩ := sec_at HO s h0 h1
  have hc1 : w.cell? ⟨g, 1, none⟩ = some (.slice (some ⟨gr, 0, none⟩) n c) := (blk_cell hb 1).trans rfl
  have hs : decide (s < 0) = false := decide_eq_false (by omega)
  have H0 := Aside0.mk h0
  have H1 := Aside0.mk h1
  have HO2 := Aside0.mk HO
  have hp0 := eq_true h0
  have hp1 := eq_true h1
  have ST := Aside0.mk (SecSt.start HO H0.out H1.out)
  generalize hx : rd_T50 l s = x at x0 x1 x2 x3 x4 ST ⊢
  have HX := hx
  clear hx hb h0 h1 HO HO2 HX
  by_cases q1 : -1000000 ≤ wrap64 (x.f1 + -1)
  · skip
    have Q1 := Aside0.mk q1
    clear q1
    by_cases q2 : wrap64 (x.f1 + -1) ≤ 1000000
    · skip
      have Q2 := Aside0.mk q2
      clear q2
      by_cases q3 : wrap64 (x.f1 + -1) < 0
      · skip
        have f3 : decide (wrap64 (x.f1 + -1) < 0) = true := decide_eq_true q3
        have Q3 := Aside0.mk q3
        clear q3
        rcases Bool.eq_false_or_eq_true x.f3 with q4 | q4
        · skip
          by_cases q5 : wrap64 (x.f1 + -1) = 0
          · skip
            have f5 : (wrap64 (x.f1 + -1) == 0) = true := beq_iff_eq.mpr q5
            have Q5 := Aside0.mk q5
            clear q5
            exact absurd Q5.out (by have := Q3.out; omega)
          · skip
            have f5 : (wrap64 (x.f1 + -1) == 0) = false := beq_eq_false_iff_ne.mpr q5
            have Q5 := Aside0.mk q5
            clear q5
            have HC := Aside0.mk (show (decide (-1000000 ≤ wrap64 (x.f1 + -1)) && decide (wrap64 (x.f1 + -1) ≤ 1000000)) = true from by have h1 := Q1.out; have h2 := Q2.out; rw [decide_eq_true h1, decide_eq_true h2]; rfl)
            go_enter Try.func118, Try.ntmps118
            go_wp2_with (go_at_call 87; refine (l1in_calls _ _ _ _).mono ?_; rintro e w' ⟨rfl, rfl⟩; rw [HC.out])
            go_wp2
            go_end0
            exact ⟨rfl, SecSt.eq (((ST.out.put1 H0.out H1.out rfl).put4 H0.out H1.out rfl).put2 H0.out H1.out rfl) (countS_eq (cnt_in (by have := Q1.out; omega) (by have := Q2.out; omega)) (by rw [decide_eq_true (by have := Q3.out; omega)]; simp) (by rw [decide_eq_false (by have := Q5.out; omega)]; simp))⟩
        · have Q4 := Aside0.mk q4
          have HC := Aside0.mk (show (decide (-1000000 ≤ wrap64 (x.f1 + -1)) && decide (wrap64 (x.f1 + -1) ≤ 1000000)) = true from by have h1 := Q1.out; have h2 := Q2.out; rw [decide_eq_true h1, decide_eq_true h2]; rfl)
          go_enter Try.func118, Try.ntmps118
          go_wp2_with (go_at_call 87; refine (l1in_calls _ _ _ _).mono ?_; rintro e w' ⟨rfl, rfl⟩; rw [HC.out])
          go_wp2
          go_end0
          exact ⟨rfl, SecSt.eq (((ST.out.put1 H0.out H1.out rfl).put4 H0.out H1.out rfl).put2 H0.out H1.out rfl) (countS_eq (cnt_in (by have := Q1.out; omega) (by have := Q2.out; omega)) (by rw [decide_eq_true (by have := Q3.out; omega)]; simp) (by rw [Q4.out]; rfl))⟩
      · skip
        have f3 : decide (wrap64 (x.f1 + -1) < 0) = false := decide_eq_false q3
        have Q3 := Aside0.mk q3
        clear q3
        rcases Bool.eq_false_or_eq_true x.f3 with q4 | q4
        · skip
          by_cases q5 : wrap64 (x.f1 + -1) = 0
          · skip
            have f5 : (wrap64 (x.f1 + -1) == 0) = true := beq_iff_eq.mpr q5
            have Q5 := Aside0.mk q5
            clear q5
            have HC := Aside0.mk (show (decide (-1000000 ≤ wrap64 (x.f1 + -1)) && decide (wrap64 (x.f1 + -1) ≤ 1000000)) = true from by have h1 := Q1.out; have h2 := Q2.out; rw [decide_eq_true h1, decide_eq_true h2]; rfl)
            go_enter Try.func118, Try.ntmps118
            go_wp2_with (go_at_call 87; refine (l1in_calls _ _ _ _).mono ?_; rintro e w' ⟨rfl, rfl⟩; rw [HC.out])
            go_wp2
            go_end0
            exact ⟨rfl, SecSt.eq (((ST.out.put1 H0.out H1.out rfl).put4 H0.out H1.out rfl).put3 H0.out H1.out rfl) (countS_eq (cnt_in (by have := Q1.out; omega) (by have := Q2.out; omega)) (by rw [decide_eq_false (by have := Q3.out; omega)]; simp) (by rw [decide_eq_true (by have := Q5.out; omega)]; simp))⟩
          · skip
            have f5 : (wrap64 (x.f1 + -1) == 0) = false := beq_eq_false_iff_ne.mpr q5
            have Q5 := Aside0.mk q5
            clear q5
            have HC := Aside0.mk (show (decide (-1000000 ≤ wrap64 (x.f1 + -1)) && decide (wrap64 (x.f1 + -1) ≤ 1000000)) = true from by have h1 := Q1.out; have h2 := Q2.out; rw [decide_eq_true h1, decide_eq_true h2]; rfl)
            go_enter Try.func118, Try.ntmps118
            go_wp2_with (go_at_call 87; refine (l1in_calls _ _ _ _).mono ?_; rintro e w' ⟨rfl, rfl⟩; rw [HC.out])
            go_wp2
            go_end0
            exact ⟨rfl, SecSt.eq ((ST.out.put1 H0.out H1.out rfl).put4 H0.out H1.out rfl) (countS_eq (cnt_in (by have := Q1.out; omega) (by have := Q2.out; omega)) (by rw [decide_eq_false (by have := Q3.out; omega)]; simp) (by rw [decide_eq_false (by have := Q5.out; omega)]; simp))⟩
        · have Q4 := Aside0.mk q4
          have HC := Aside0.mk (show (decide (-1000000 ≤ wrap64 (x.f1 + -1)) && decide (wrap64 (x.f1 + -1) ≤ 1000000)) = true from by have h1 := Q1.out; have h2 := Q2.out; rw [decide_eq_true h1, decide_eq_true h2]; rfl)
          go_enter Try.func118, Try.ntmps118
          go_wp2_with (go_at_call 87; refine (l1in_calls _ _ _ _).mono ?_; rintro e w' ⟨rfl, rfl⟩; rw [HC.out])
          go_wp2
          go_end0
          exact ⟨rfl, SecSt.eq ((ST.out.put1 H0.out H1.out rfl).put4 H0.out H1.out rfl) (countS_eq (cnt_in (by have := Q1.out; omega) (by have := Q2.out; omega)) (by rw [decide_eq_false (by have := Q3.out; omega)]; simp) (by rw [Q4.out]; rfl))⟩
    · skip
      have Q2 := Aside0.mk q2
      clear q2
      by_cases q3 : x.f1 < 0
      · skip
        have f3 : decide (x.f1 < 0) = true := decide_eq_true q3
        have Q3 := Aside0.mk q3
        clear q3
        rcases Bool.eq_false_or_eq_true x.f3 with q4 | q4
        · skip
          by_cases q5 : x.f1 = 0
          · skip
            have f5 : (x.f1 == 0) = true := beq_iff_eq.mpr q5
            have Q5 := Aside0.mk q5
            clear q5
            exact absurd Q5.out (by have := Q3.out; omega)
          · skip
            have f5 : (x.f1 == 0) = false := beq_eq_false_iff_ne.mpr q5
            have Q5 := Aside0.mk q5
            clear q5
            have HC := Aside0.mk (show (decide (-1000000 ≤ wrap64 (x.f1 + -1)) && decide (wrap64 (x.f1 + -1) ≤ 1000000)) = false from by have h2 := Q2.out; rw [decide_eq_false h2, Bool.and_false])
            go_enter Try.func118, Try.ntmps118
            go_wp2_with (go_at_call 87; refine (l1in_calls _ _ _ _).mono ?_; rintro e w' ⟨rfl, rfl⟩; rw [HC.out])
            go_wp2
            go_end0
            exact ⟨rfl, SecSt.eq ((ST.out.put4 H0.out H1.out rfl).put2 H0.out H1.out rfl) (countS_eq (cnt_hi (by have := Q2.out; omega)) (by rw [decide_eq_true (by have := Q3.out; omega)]; simp) (by rw [decide_eq_false (by have := Q5.out; omega)]; simp))⟩
        · have Q4 := Aside0.mk q4
          have HC := Aside0.mk (show (decide (-1000000 ≤ wrap64 (x.f1 + -1)) && decide (wrap64 (x.f1 + -1) ≤ 1000000)) = false from by have h2 := Q2.out; rw [decide_eq_false h2, Bool.and_false])
          go_enter Try.func118, Try.ntmps118
          go_wp2_with (go_at_call 87; refine (l1in_calls _ _ _ _).mono ?_; rintro e w' ⟨rfl, rfl⟩; rw [HC.out])
          go_wp2
          go_end0
          exact ⟨rfl, SecSt.eq ((ST.out.put4 H0.out H1.out rfl).put2 H0.out H1.out rfl) (countS_eq (cnt_hi (by have := Q2.out; omega)) (by rw [decide_eq_true (by have := Q3.out; omega)]; simp) (by rw [Q4.out]; rfl))⟩
      · skip
        have f3 : decide (x.f1 < 0) = false := decide_eq_false q3
        have Q3 := Aside0.mk q3
        clear q3
        rcases Bool.eq_false_or_eq_true x.f3 with q4 | q4
        · skip
          by_cases q5 : x.f1 = 0
          · skip
            have f5 : (x.f1 == 0) = true := beq_iff_eq.mpr q5
            have Q5 := Aside0.mk q5
            clear q5
            have HC := Aside0.mk (show (decide (-1000000 ≤ wrap64 (x.f1 + -1)) && decide (wrap64 (x.f1 + -1) ≤ 1000000)) = false from by have h2 := Q2.out; rw [decide_eq_false h2, Bool.and_false])
            go_enter Try.func118, Try.ntmps118
            go_wp2_with (go_at_call 87; refine (l1in_calls _ _ _ _).mono ?_; rintro e w' ⟨rfl, rfl⟩; rw [HC.out])
            go_wp2
            go_end0
            exact ⟨rfl, SecSt.eq ((ST.out.put4 H0.out H1.out rfl).put3 H0.out H1.out rfl) (countS_eq (cnt_hi (by have := Q2.out; omega)) (by rw [decide_eq_false (by have := Q3.out; omega)]; simp) (by rw [decide_eq_true (by have := Q5.out; omega)]; simp))⟩
          · skip
            have f5 : (x.f1 == 0) = false := beq_eq_false_iff_ne.mpr q5
            have Q5 := Aside0.mk q5
            clear q5
            have HC := Aside0.mk (show (decide (-1000000 ≤ wrap64 (x.f1 + -1)) && decide (wrap64 (x.f1 + -1) ≤ 1000000)) = false from by have h2 := Q2.out; rw [decide_eq_false h2, Bool.and_false])
            go_enter Try.func118, Try.ntmps118
            go_wp2_with (go_at_call 87; refine (l1in_calls _ _ _ _).mono ?_; rintro e w' ⟨rfl, rfl⟩; rw [HC.out])
            go_wp2
            go_end0
            exact ⟨rfl, SecSt.eq (ST.out.put4 H0.out H1.out rfl) (countS_eq (cnt_hi (by have := Q2.out; omega)) (by rw [decide_eq_false (by have := Q3.out; omega)]; simp) (by rw [decide_eq_false (by have := Q5.out; omega)]; simp))⟩
        · have Q4 := Aside0.mk q4
          have HC := Aside0.mk (show (decide (-1000000 ≤ wrap64 (x.f1 + -1)) && decide (wrap64 (x.f1 + -1) ≤ 1000000)) = false from by have h2 := Q2.out; rw [decide_eq_false h2, Bool.and_false])
          go_enter Try.func118, Try.ntmps118
          go_wp2_with (go_at_call 87; refine (l1in_calls _ _ _ _).mono ?_; rintro e w' ⟨rfl, rfl⟩; rw [HC.out])
          go_wp2
          go_end0
          exact ⟨rfl, SecSt.eq (ST.out.put4 H0.out H1.out rfl) (countS_eq (cnt_hi (by have := Q2.out; omega)) (by rw [decide_eq_false (by have := Q3.out; omega)]; simp) (by rw [Q4.out]; rfl))⟩
  · skip
    have Q1 := Aside0.mk q1
    clear q1
    by_cases q3 : x.f1 < 0
    · skip
      have f3 : decide (x.f1 < 0) = true := decide_eq_true q3
      have Q3 := Aside0.mk q3
      clear q3
      rcases Bool.eq_false_or_eq_true x.f3 with q4 | q4
      · skip
        by_cases q5 : x.f1 = 0
        · skip
          have f5 : (x.f1 == 0) = true := beq_iff_eq.mpr q5
          have Q5 := Aside0.mk q5
          clear q5
          exact absurd Q5.out (by have := Q3.out; omega)
        · skip
          have f5 : (x.f1 == 0) = false := beq_eq_false_iff_ne.mpr q5
          have Q5 := Aside0.mk q5
          clear q5
          have HC := Aside0.mk (show (decide (-1000000 ≤ wrap64 (x.f1 + -1)) && decide (wrap64 (x.f1 + -1) ≤ 1000000)) = false from by have h1 := Q1.out; rw [decide_eq_false h1, Bool.false_and])
          go_enter Try.func118, Try.ntmps118
          go_wp2_with (go_at_call 87; refine (l1in_calls _ _ _ _).mono ?_; rintro e w' ⟨rfl, rfl⟩; rw [HC.out])
          go_wp2
          go_end0
          exact ⟨rfl, SecSt.eq ((ST.out.put4 H0.out H1.out rfl).put2 H0.out H1.out rfl) (countS_eq (cnt_lo (by have := Q1.out; omega)) (by rw [decide_eq_true (by have := Q3.out; omega)]; simp) (by rw [decide_eq_false (by have := Q5.out; omega)]; simp))⟩
      · have Q4 := Aside0.mk q4
        have HC := Aside0.mk (show (decide (-1000000 ≤ wrap64 (x.f1 + -1)) && decide (wrap64 (x.f1 + -1) ≤ 1000000)) = false from by have h1 := Q1.out; rw [decide_eq_false h1, Bool.false_and])
        go_enter Try.func118, Try.ntmps118
        go_wp2_with (go_at_call 87; refine (l1in_calls _ _ _ _).mono ?_; rintro e w' ⟨rfl, rfl⟩; rw [HC.out])
        go_wp2
        go_end0
        exact ⟨rfl, SecSt.eq ((ST.out.put4 H0.out H1.out rfl).put2 H0.out H1.out rfl) (countS_eq (cnt_lo (by have := Q1.out; omega)) (by rw [decide_eq_true (by have := Q3.out; omega)]; simp) (by rw [Q4.out]; rfl))⟩
    · skip
      have f3 : decide (x.f1 < 0) = false := decide_eq_false q3
      have Q3 := Aside0.mk q3
      clear q3
      rcases Bool.eq_false_or_eq_true x.f3 with q4 | q4
      · skip
        by_cases q5 : x.f1 = 0
        · skip
          have f5 : (x.f1 == 0) = true := beq_iff_eq.mpr q5
          have Q5 := Aside0.mk q5
          clear q5
          have HC := Aside0.mk (show (decide (-1000000 ≤ wrap64 (x.f1 + -1)) && decide (wrap64 (x.f1 + -1) ≤ 1000000)) = false from by have h1 := Q1.out; rw [decide_eq_false h1, Bool.false_and])
          go_enter Try.func118, Try.ntmps118
          go_wp2_with (go_at_call 87; refine (l1in_calls _ _ _ _).mono ?_; rintro e w' ⟨rfl, rfl⟩; rw [HC.out])
          go_wp2
          go_end0
          exact ⟨rfl, SecSt.eq ((ST.out.put4 H0.out H1.out rfl).put3 H0.out H1.out rfl) (countS_eq (cnt_lo (by have := Q1.out; omega)) (by rw [decide_eq_false (by have := Q3.out; omega)]; simp) (by rw [decide_eq_true (by have := Q5.out; omega)]; simp))⟩
        · skip
          have f5 : (x.f1 == 0) = false := beq_eq_false_iff_ne.mpr q5
          have Q5 := Aside0.mk q5
          clear q5
          have HC := Aside0.mk (show (decide (-1000000 ≤ wrap64 (x.f1 + -1)) && decide (wrap64 (x.f1 + -1) ≤ 1000000)) = false from by have h1 := Q1.out; rw [decide_eq_false h1, Bool.false_and])
          go_enter Try.func118, Try.ntmps118
          go_wp2_with (go_at_call 87; refine (l1in_calls _ _ _ _).mono ?_; rintro e w' ⟨rfl, rfl⟩; rw [HC.out])
          go_wp2
          go_end0
          exact ⟨rfl, SecSt.eq (ST.out.put4 H0.out H1.out rfl) (countS_eq (cnt_lo (by have := Q1.out; omega)) (by rw [decide_eq_false (by have := Q3.out; omega)]; simp) (by rw [decide_eq_false (by have := Q5.out; omega)]; simp))⟩
      · have Q4 := Aside0.mk q4
        have HC := Aside0.mk (show (decide (-1000000 ≤ wrap64 (x.f1 + -1)) && decide (wrap64 (x.f1 + -1) ≤ 1000000)) = false from by have h1 := Q1.out; rw [decide_eq_false h1, Bool.false_and])
        go_enter Try.func118, Try.ntmps118
        go_wp2_with (go_at_call 87; refine (l1in_calls _ _ _ _).mono ?_; rintro e w' ⟨rfl, rfl⟩; rw [HC.out])
        go_wp2
        go_end0
        exact ⟨rfl, SecSt.eq (ST.out.put4 H0.out H1.out rfl) (countS_eq (cnt_lo (by have := Q1.out; omega)) (by rw [decide_eq_false (by have := Q3.out; omega)]; simp) (by rw [Q4.out]; rfl))⟩
end Go.Proofs.Ytpdnabhpkdchjaa.P
namespace Go.Proofs.Ytpdnabhpkdchjaa.P
open Go.RowKit Go.Proofs.YtpdnabhpkdchjaaW.PrintWords Go.Proofs.YtpdnabhpkdchjaaW.PrintLast Go.Proofs.YtpdnabhpkdchjaaW.PrintMore
attribute [local go_sem ↓] Go.wp_at_zero Go.wp_at_succ
set_option linter.unusedVariables false
set_option linter.unusedSimpArgs false
section
variable {n : Int} {A : Option Addr} {c : Nat} {l : List S88} {A2 : Option Addr} {c2 : Nat} {dd : List Bool} {w : World}
theorem in_at (x a b : Int) (h1 : a ≤ x) (h2 : x ≤ b) (w : World) : Calls Try.prog 87 #[.int .i64 x, .int .i64 a, .int .i64 b] w fun e w' => e = .returned (.bool true) ∧ Below w.heap.size w w' :=
  (spec_l1in.calls x a b true w (by rw [spec_l1in.f, if_pos (by omega), decide_eq_true h2])).mono fun e w' ⟨he, hd⟩ => ⟨he, hd.below⟩
theorem sdeadv {x : Bool} (i : Int) (hx : deadAt l dd i = x) (hr : Kd.C k88 w A l.length l) (hc : l.length ≤ c) (hr2 : Kd.C Kd.bool w A2 dd.length dd) (hc2 : dd.length ≤ c2) (hl : layoutOk n l = 0) (h0 : 0 ≤ i) (h1 : i < n) (hd : dd.length = l.length) :
    Calls Try.prog 114 #[.agg #[.int .i64 n, .slice A l.length c], .slice A2 dd.length c2, .int .i64 i] w fun e w' => e = .returned (.bool x) ∧ Below w.heap.size w w' := by
  obtain ⟨k, h⟩ := (specDead_ev n l dd i hl ⟨h0, h1⟩ hd).rounds
  rw [← hx]
  exact spec_l2dead.calls k n A c l A2 c2 dd i _ w hr hc hr2 hc2 h
theorem stoldv {x : S50} (i : Int) (hx : x.f0 = toldC l dd i x) (hr : Kd.C k88 w A l.length l) (hc : l.length ≤ c) (hr2 : Kd.C Kd.bool w A2 dd.length dd) (hc2 : dd.length ≤ c2) (hl : layoutOk n l = 0) (h0 : 0 ≤ i) (h1 : i < n) (hd : dd.length = l.length) :
    Calls Try.prog 113 #[.agg #[.int .i64 n, .slice A l.length c], .slice A2 dd.length c2, .int .i64 i, .agg #[.int .i64 x.f0, .int .i64 x.f1, .bool x.f2, .bool x.f3, .int .i64 x.f4]] w fun e w' => e = .returned (.int .i64 x.f0) ∧ Below w.heap.size w w' := by
  obtain ⟨k, h⟩ := (specTold_ev n l dd i x hl ⟨h0, h1⟩ hd).rounds
  rw [← hx] at h
  exact spec_l2told.calls k n A c l A2 c2 dd i x.f0 x.f1 x.f2 x.f3 x.f4 _ w hr hc hr2 hc2 h
end
def st_T6 : Bool × List (List Nat × List Nat) := (true, [([], []), ([0], [0]), ([1], [1]), ([2], [2]), ([3, 2], [3]), ([4], [4]), ([5, 4], [4, 5]), ([6, 4, 4], [4, 6]), ([7, 4], [4, 7]), ([4, 8], [4, 8]), ([9, 7], [9]), ([10], [10]), ([11, 10], [10, 11]), ([10], [10]), ([10], [10]), ([14, 10], [10, 14]), ([10], [10]), ([10], [10]), ([13, 15, 16, 17, 10, 10], [10, 13, 15, 16, 17]), ([12, 18, 10], [10, 12, 18]), ([10, 19], [10, 19])])
def st_B6 : List Nat := [0, 1, 3, 7, 15, 31, 63, 127, 255, 511, 1023, 2047, 4095, 2047, 2047, 18431, 2047, 2047, 255999, 524287, 1048575]
theorem st_tab6 : rtab .any (opsOf Try.f56 6) = st_T6 := by kernel_rfl
theorem st_bits6 : waitsOk st_T6.2 st_B6 = true := by kernel_rfl
structure StSt (w0 w : World) (gl gz : Nat) (lv zv : List Value) : Prop where
  hB : Below w0.heap.size w0 w
  hl : w.heap[gl]? = some (.cells lv.toArray 30 (0, 0))
  hz : w.heap[gz]? = some (.cells zv.toArray 46 (0, 0))
structure SeSt (w0 w : World) (gl gz gx : Nat) (lv zv xv : List Value) : Prop where
  S : StSt w0 w gl gz lv zv
  hx : w.heap[gx]? = some (.cells xv.toArray 50 (0, 0))
section
variable {w0 w w' : World} {gl gz gx : Nat} {lv zv xv : List Value}
theorem StSt.up (h : StSt w0 w gl gz lv zv) (hb : Below w.heap.size w w') : StSt w0 w' gl gz lv zv := ⟨below_step h.hB hb, blk_below h.hl hb, blk_below h.hz hb⟩
theorem SeSt.up (h : SeSt w0 w gl gz gx lv zv xv) (hb : Below w.heap.size w w') : SeSt w0 w' gl gz gx lv zv xv := ⟨h.S.up hb, blk_below h.hx hb⟩
theorem StSt.fill {y0 y1 y2 y3 y4 x0 x1 x2 x3 x4 : Value} (h : StSt w0 w gl gz lv zv) (hx : w'.heap[gx]? = some (.cells #[x0, x1, x2, x3, x4] 50 (0, 0))) (hb : Below w.heap.size w w') (hg : w.heap.size ≤ gx) :
    SeSt w0 (((((w'.setCell ⟨gx, 0, none⟩ y0).setCell ⟨gx, 1, none⟩ y1).setCell ⟨gx, 2, none⟩ y2).setCell ⟨gx, 3, none⟩ y3).setCell ⟨gx, 4, none⟩ y4) gl gz gx lv zv [y0, y1, y2, y3, y4] := by
  have h2 := below_set (j := 4) (v := y4) (below_set (j := 3) (v := y3) (below_set (j := 2) (v := y2) (below_set (j := 1) (v := y1) (below_set (j := 0) (v := y0) hb hg) hg) hg) hg) hg
  exact ⟨h.up h2, blk_put (blk_put (blk_put (blk_put (blk_put hx 0 y0 rfl) 1 y1 rfl) 2 y2 rfl) 3 y3 rfl) 4 y4 rfl⟩
end
set_option maxHeartbeats 16000000 in
set_option maxRecDepth 100000 in
theorem sst_ok {n : Int} {A : Option Addr} {c : Nat} {l : List S88} {b : Bool} {A1 : Option Addr} {c1 : Nat} {ss : List S50} {A2 : Option Addr} {c2 : Nat} {dd : List Bool} {w : World}
    (hst : stateOk n l b ss dd = true) (hr : Kd.C k88 w A l.length l) (hc : l.length ≤ c) (hr1 : Kd.C k50 w A1 ss.length ss) (hc1 : ss.length ≤ c1) (hr2 : Kd.C Kd.bool w A2 dd.length dd) (hc2 : dd.length ≤ c2) :
    Calls Try.prog 56 #[.agg #[.int .i64 n, .slice A l.length c], .agg #[.bool b, .slice A1 ss.length c1, .slice A2 dd.length c2]] w fun e w' => e = .returned (.bool true) ∧ Below w.heap.size w w' := by
  have HR := Aside0.mk hr
  have HR1 := Aside0.mk hr1
  have HR2 := Aside0.mk hr2
  obtain ⟨hl0, rfl, hn, hdl, hsec⟩ := stateOk_of hst
  have hn1 := (lay_n hl0).2.1
  have HL := Aside0.mk hl0
  have HN := Aside0.mk hn
  have HDL := Aside0.mk hdl
  have HSEC := Aside0.mk hsec
  have HC := Aside0.mk hc
  have HC2 := Aside0.mk hc2
  have H60 := Aside0.mk (show ss.length ≤ 60 by omega)
  have n1 : ((ss.length : Int) != n) = false := bne_eq_false_iff_eq.mpr hn
  have n2 : ((dd.length : Int) != (l.length : Int)) = false := bne_eq_false_iff_eq.mpr (by omega)
  clear hr hr1 hr2 hst hl0 hn hdl hsec hn1 hc hc2
  go_enter Try.func56, Try.ntmps56
  go_upto_region 1 with (first | ((with_reducible refine gate_dst (N := 2) rfl ?_); refine box_event ?hg (N := 2) ?hd (cs := #[.int .i64 n, .slice A l.length c]) (t := 30) ?hr ?_; (case hd => rfl); (case hg => rfl); (case hr => first | (go_simp; done) | (go_simp; rfl)); intro gl el wl kl bl; clear el) | ((with_reducible refine gate_dst (N := 3) rfl ?_); refine box_event ?hg (N := 3) ?hd (cs := #[.bool true, .slice A1 ss.length c1, .slice A2 dd.length c2]) (t := 46) ?hr ?_; (case hd => rfl); (case hg => rfl); (case hr => first | (go_simp; done) | (go_simp; rfl)); intro gz ez wz kz bz; clear ez))
  have S0 : Aside0 (StSt w wz gl gz [.int .i64 n, .slice A l.length c] [.bool true, .slice A1 ss.length c1, .slice A2 dd.length c2]) := ⟨⟨below_step bl bz, blk_below kl bz, kz⟩⟩
  clear kl kz bl bz
  try simp only [Act.put, List.setIfInBounds_toArray, List.set_cons_zero, List.set_cons_succ]
  have kl0 : wz.cell? ⟨gl, 0, none⟩ = some (.int .i64 n) := (blk_cell S0.out.hl 0).trans rfl
  have kl1 : wz.cell? ⟨gl, 1, none⟩ = some (.slice A l.length c) := (blk_cell S0.out.hl 1).trans rfl
  go_wp2_with (go_at_call 23; refine (slay_is (Kd.C_below HR.out S0.out.hB) HC.out).mono ?_; rw [HL.out]; rintro e w1 ⟨rfl, hb⟩; have S1 := Aside0.mk (S0.out.up hb); have kl0 : w1.cell? ⟨gl, 0, none⟩ = some (.int .i64 n) := (blk_cell S1.out.hl 0).trans rfl; have kl1 : w1.cell? ⟨gl, 1, none⟩ = some (.slice A l.length c) := (blk_cell S1.out.hl 1).trans rfl; have kz0 : w1.cell? ⟨gz, 0, none⟩ = some (.bool true) := (blk_cell S1.out.hz 0).trans rfl; have kz1 : w1.cell? ⟨gz, 1, none⟩ = some (.slice A1 ss.length c1) := (blk_cell S1.out.hz 1).trans rfl; have kz2 : w1.cell? ⟨gz, 2, none⟩ = some (.slice A2 dd.length c2) := (blk_cell S1.out.hz 2).trans rfl; clear hb)
  clear S0 kl0 kl1 kz0 kz1 kz2
  go_loopg [35] ss.length (fun kq v35 w' => ∃ j : Nat, v35 = .int .i64 j ∧ Aside0 (j + kq = ss.length) ∧ Aside0 (StSt w w' gl gz [.int .i64 n, .slice A l.length c] [.bool true, .slice A1 ss.length c1, .slice A2 dd.length c2]))
  case atStart => exact ⟨0, rfl, ⟨by omega⟩, S1⟩
  case round =>
    clear S1
    obtain ⟨j, rfl, HJ, SL⟩ := hrel
    by_cases hlt : j < ss.length
    · cases gk with
      | zero => exact absurd HJ.out (by omega)
      | succ gk =>
      have hlt' : decide ((j : Int) < (ss.length : Int)) = true := decide_eq_true (by omega)
      have q0 : (0 : Int) ≤ (j : Int) := by omega
      have q1 : (j : Int) < (ss.length : Int) := by omega
      have HJN := Aside0.mk (show (j : Int) < n by have := HN.out; omega)
      obtain ⟨ad, e, x0, x1, x2, x3, x4⟩ := at_T50 HR1.out (j : Int) q0 q1
      cases e
      rw [Int.toNat_natCast] at x0 x1 x2 x3 x4
      have hs := HSEC.out j hlt
      generalize rd_T50 ss (j : Int) = x at x0 x1 x2 x3 x4 hs
      have y0 := pw_cell_below SL.out.hB x0
      have y1 := pw_cell_below SL.out.hB x1
      have y2 := pw_cell_below SL.out.hB x2
      have y3 := pw_cell_below SL.out.hB x3
      have y4 := pw_cell_below SL.out.hB x4
      obtain ⟨r0, r1, r2, r3⟩ := secOk_range hs
      have I1 := Aside0.mk (in_at x.f1 (-1000000) 1000000 r0 r1)
      have I2 := Aside0.mk (in_at x.f4 (-1) 1 r2 r3)
      have HT := Aside0.mk (secOk_told hs)
      have HRS := Aside0.mk (show secRest (deadAt l dd (j : Int)) x = true by simp only [secOk, Bool.and_eq_true] at hs; exact hs.2)
      clear x0 x1 x2 x3 x4 hs r0 r1 r2 r3
      go_upto_region 6 with ((with_reducible refine gate_dst (N := 6) rfl ?_); refine box_event ?hg (N := 6) ?hd (cs := #[.int .i64 0, .int .i64 0, .bool false, .bool false, .int .i64 0]) (t := 50) ?hr ?_; (case hd => rfl); (case hg => rfl); (case hr => first | (go_simp; done) | (go_simp; rfl)); intro gx ex wx kx bx; have EX := Aside0.mk ex; have KX := Aside0.mk kx; have BX := Aside0.mk bx; have kx0 : wx.cell? ⟨gx, 0, none⟩ = some (.int .i64 0) := (blk_cell KX.out 0).trans rfl; have kx1 : wx.cell? ⟨gx, 1, none⟩ = some (.int .i64 0) := (blk_cell KX.out 1).trans rfl; have kx2 : wx.cell? ⟨gx, 2, none⟩ = some (.bool false) := (blk_cell KX.out 2).trans rfl; have kx3 : wx.cell? ⟨gx, 3, none⟩ = some (.bool false) := (blk_cell KX.out 3).trans rfl; have kx4 : wx.cell? ⟨gx, 4, none⟩ = some (.int .i64 0) := (blk_cell KX.out 4).trans rfl; have zx0 := blk_frozen KX.out 0; have zx1 := blk_frozen KX.out 1; have zx2 := blk_frozen KX.out 2; have zx3 := blk_frozen KX.out 3; have zx4 := blk_frozen KX.out 4; clear ex kx bx)
      have S2 := Aside0.mk (SL.out.fill (y0 := .int .i64 x.f0) (y1 := .int .i64 x.f1) (y2 := .bool x.f2) (y3 := .bool x.f3) (y4 := .int .i64 x.f4) KX.out BX.out (Nat.le_of_eq EX.out.symm))
      clear kx0 kx1 kx2 kx3 kx4 zx0 zx1 zx2 zx3 zx4 KX BX y0 y1 y2 y3 y4
      generalize ((((wx.setCell ⟨gx, 0, none⟩ (.int .i64 x.f0)).setCell ⟨gx, 1, none⟩ (.int .i64 x.f1)).setCell ⟨gx, 2, none⟩ (.bool x.f2)).setCell ⟨gx, 3, none⟩ (.bool x.f3)).setCell ⟨gx, 4, none⟩ (.int .i64 x.f4) = w2 at S2 ⊢
      have SD := Aside0.mk (S2.out.up (below_drew1 (Below.refl w2.heap.size w2)))
      have hne : (x.f0 != x.f0) = false := bne_self_eq_false _
      have kl0 : w2.drew.cell? ⟨gl, 0, none⟩ = some (.int .i64 n) := (blk_cell SD.out.S.hl 0).trans rfl
      have kl1 : w2.drew.cell? ⟨gl, 1, none⟩ = some (.slice A l.length c) := (blk_cell SD.out.S.hl 1).trans rfl
      have kz2 : w2.drew.cell? ⟨gz, 2, none⟩ = some (.slice A2 dd.length c2) := (blk_cell SD.out.S.hz 2).trans rfl
      have kx0 : w2.drew.cell? ⟨gx, 0, none⟩ = some (.int .i64 x.f0) := (blk_cell SD.out.hx 0).trans rfl
      have kx1 : w2.drew.cell? ⟨gx, 1, none⟩ = some (.int .i64 x.f1) := (blk_cell SD.out.hx 1).trans rfl
      have kx2 : w2.drew.cell? ⟨gx, 2, none⟩ = some (.bool x.f2) := (blk_cell SD.out.hx 2).trans rfl
      have kx3 : w2.drew.cell? ⟨gx, 3, none⟩ = some (.bool x.f3) := (blk_cell SD.out.hx 3).trans rfl
      have kx4 : w2.drew.cell? ⟨gx, 4, none⟩ = some (.int .i64 x.f4) := (blk_cell SD.out.hx 4).trans rfl
      refine start_ (n := 21) (S := fun w' => w'.cell? ⟨gl, 0, none⟩ = some (.int .i64 n) ∧ w'.cell? ⟨gl, 1, none⟩ = some (.slice A l.length c) ∧ w'.cell? ⟨gz, 2, none⟩ = some (.slice A2 dd.length c2) ∧ w'.cell? ⟨gx, 0, none⟩ = some (.int .i64 x.f0) ∧ w'.cell? ⟨gx, 1, none⟩ = some (.int .i64 x.f1) ∧ w'.cell? ⟨gx, 2, none⟩ = some (.bool x.f2) ∧ w'.cell? ⟨gx, 3, none⟩ = some (.bool x.f3) ∧ w'.cell? ⟨gx, 4, none⟩ = some (.int .i64 x.f4)) (ds := []) #[false, false, false, false, false, false, false, false, false, false, false, false, false, false, false, false, false, false, false, false, false] (by kernel_rfl) rfl rfl ⟨kl0, kl1, kz2, kx0, kx1, kx2, kx3, kx4⟩ (fun hHeld => ?_); refine with_tabW st_tab6 st_bits6 (fun HT_ HW_ => ?_)
      refine pure_ (i := 0) (N := some 40) (v := ?_) (a' := ?_) #[true, false, false, false, false, false, false, false, false, false, false, false, false, false, false, false, false, false, false, false, false] rfl rfl (any_of HT_.out (by kernel_rfl)) (fun _ _ _ h => h) (Or.inl ⟨by rfl, ?_⟩) ?_ ?_
      rotate_left
      · intro w'
        go_simp
        with_reducible rfl
      rotate_left
      · simp only [Act.put, List.setIfInBounds_toArray, List.set_cons_zero, List.set_cons_succ, i64_w, i32_w]
        rfl
      refine take_ (i := 1) (N := some 41) (v := ?_) (a' := ?_) #[true, true, false, false, false, false, false, false, false, false, false, false, false, false, false, false, false, false, false, false, false] rfl rfl (take_ofW HT_.out HW_.out (by kernel_rfl)) (fun _ _ _ h => h) (Or.inl ⟨by rfl, ?_⟩) hHeld ?_ ?_
      rotate_left
      · rintro w' ⟨s0, s1, s2, s3, s4, s5, s6, s7⟩
        go_simp
        with_reducible rfl
      rotate_left
      · simp only [Act.put, List.setIfInBounds_toArray, List.set_cons_zero, List.set_cons_succ, i64_w, i32_w]
        rfl
      refine one_ (i := 2) (N := some 42) #[true, true, true, false, false, false, false, false, false, false, false, false, false, false, false, false, false, false, false, false, false] rfl rfl (one_of HT_.out (by kernel_rfl)) (by decide) (fun K hK => ?_)
      refine goes_ Try.func87 (by kernel_rfl) rfl #[.int .i64 x.f1, .int .i64 (-1000000), .int .i64 1000000] (by rfl) rfl rfl (by (try simp only [List.map_toArray, List.map_cons, List.map_nil]); first | done | rfl | (simp only [List.length_drop, List.length_take]; rfl)) ?_
      with_reducible refine (I1.out _).mono ?_; rintro e w' ⟨rfl, hb⟩
      refine ⟨_, rfl, ?_⟩
      have SD := Aside0.mk (SD.out.up hb)
      refine hK.out _ _ ⟨pw_cell_below hb hHeld.1, pw_cell_below hb hHeld.2.1, pw_cell_below hb hHeld.2.2.1, pw_cell_below hb hHeld.2.2.2.1, pw_cell_below hb hHeld.2.2.2.2.1, pw_cell_below hb hHeld.2.2.2.2.2.1, pw_cell_below hb hHeld.2.2.2.2.2.2.1, pw_cell_below hb hHeld.2.2.2.2.2.2.2⟩ (fun hHeld => ?_)
      clear hK K
      refine norm_ (a' := ?_) ?_ ?_
      rotate_left
      · show Act.put _ (some 42) _ = _
        simp only [Act.put, List.setIfInBounds_toArray, List.set_cons_zero, List.set_cons_succ, i64_w, i32_w]
        rfl
      refine pure_ (i := 3) (N := some 43) (v := ?_) (a' := ?_) #[true, true, true, true, false, false, false, false, false, false, false, false, false, false, false, false, false, false, false, false, false] rfl rfl (any_of HT_.out (by kernel_rfl)) (fun _ _ _ h => h) (Or.inl ⟨by rfl, ?_⟩) ?_ ?_
      rotate_left
      · intro w'
        go_simp
        with_reducible rfl
      rotate_left
      · simp only [Act.put, List.setIfInBounds_toArray, List.set_cons_zero, List.set_cons_succ, i64_w, i32_w]
        rfl
      refine pure_ (i := 4) (N := some 44) (v := ?_) (a' := ?_) #[true, true, true, true, true, false, false, false, false, false, false, false, false, false, false, false, false, false, false, false, false] rfl rfl (any_of HT_.out (by kernel_rfl)) (fun _ _ _ h => h) (Or.inl ⟨by rfl, ?_⟩) ?_ ?_
      rotate_left
      · intro w'
        go_simp
        with_reducible rfl
      rotate_left
      · simp only [Act.put, List.setIfInBounds_toArray, List.set_cons_zero, List.set_cons_succ, i64_w, i32_w]
        rfl
      refine pure_ (i := 5) (N := some 45) (v := ?_) (a' := ?_) #[true, true, true, true, true, true, false, false, false, false, false, false, false, false, false, false, false, false, false, false, false] rfl rfl (any_of HT_.out (by kernel_rfl)) (fun _ _ _ h => h) (Or.inl ⟨by rfl, ?_⟩) ?_ ?_
      rotate_left
      · intro w'
        go_simp
        with_reducible rfl
      rotate_left
      · simp only [Act.put, List.setIfInBounds_toArray, List.set_cons_zero, List.set_cons_succ, i64_w, i32_w]
        rfl
      refine take_ (i := 6) (N := some 46) (v := ?_) (a' := ?_) #[true, true, true, true, true, true, true, false, false, false, false, false, false, false, false, false, false, false, false, false, false] rfl rfl (take_ofW HT_.out HW_.out (by kernel_rfl)) (fun _ _ _ h => h) (Or.inl ⟨by rfl, ?_⟩) hHeld ?_ ?_
      rotate_left
      · rintro w' ⟨s0, s1, s2, s3, s4, s5, s6, s7⟩
        go_simp
        with_reducible rfl
      rotate_left
      · simp only [Act.put, List.setIfInBounds_toArray, List.set_cons_zero, List.set_cons_succ, i64_w, i32_w]
        rfl
      refine one_ (i := 7) (N := some 47) #[true, true, true, true, true, true, true, true, false, false, false, false, false, false, false, false, false, false, false, false, false] rfl rfl (one_of HT_.out (by kernel_rfl)) (by decide) (fun K hK => ?_)
      refine goes_ Try.func87 (by kernel_rfl) rfl #[.int .i64 x.f4, .int .i64 (-1), .int .i64 1] (by rfl) rfl rfl (by (try simp only [List.map_toArray, List.map_cons, List.map_nil]); first | done | rfl | (simp only [List.length_drop, List.length_take]; rfl)) ?_
      with_reducible refine (I2.out _).mono ?_; rintro e w' ⟨rfl, hb⟩
      refine ⟨_, rfl, ?_⟩
      have SD := Aside0.mk (SD.out.up hb)
      refine hK.out _ _ ⟨pw_cell_below hb hHeld.1, pw_cell_below hb hHeld.2.1, pw_cell_below hb hHeld.2.2.1, pw_cell_below hb hHeld.2.2.2.1, pw_cell_below hb hHeld.2.2.2.2.1, pw_cell_below hb hHeld.2.2.2.2.2.1, pw_cell_below hb hHeld.2.2.2.2.2.2.1, pw_cell_below hb hHeld.2.2.2.2.2.2.2⟩ (fun hHeld => ?_)
      clear hK K
      refine norm_ (a' := ?_) ?_ ?_
      rotate_left
      · show Act.put _ (some 47) _ = _
        simp only [Act.put, List.setIfInBounds_toArray, List.set_cons_zero, List.set_cons_succ, i64_w, i32_w]
        rfl
      refine pure_ (i := 8) (N := some 48) (v := ?_) (a' := ?_) #[true, true, true, true, true, true, true, true, true, false, false, false, false, false, false, false, false, false, false, false, false] rfl rfl (any_of HT_.out (by kernel_rfl)) (fun _ _ _ h => h) (Or.inl ⟨by rfl, ?_⟩) ?_ ?_
      rotate_left
      · intro w'
        go_simp
        with_reducible rfl
      rotate_left
      · simp only [Act.put, List.setIfInBounds_toArray, List.set_cons_zero, List.set_cons_succ, i64_w, i32_w]
        rfl
      refine pure_ (i := 9) (N := some 49) (v := ?_) (a' := ?_) #[true, true, true, true, true, true, true, true, true, true, false, false, false, false, false, false, false, false, false, false, false] rfl rfl (any_of HT_.out (by kernel_rfl)) (fun _ _ _ h => h) (Or.inl ⟨by rfl, ?_⟩) ?_ ?_
      rotate_left
      · intro w'
        go_simp
        with_reducible rfl
      rotate_left
      · simp only [Act.put, List.setIfInBounds_toArray, List.set_cons_zero, List.set_cons_succ, i64_w, i32_w]
        rfl
      refine pure_ (i := 10) (N := some 50) (v := ?_) (a' := ?_) #[true, true, true, true, true, true, true, true, true, true, true, false, false, false, false, false, false, false, false, false, false] rfl rfl (any_of HT_.out (by kernel_rfl)) (fun _ _ _ h => h) (Or.inl ⟨by rfl, ?_⟩) ?_ ?_
      rotate_left
      · intro w'
        go_simp
        with_reducible rfl
      rotate_left
      · simp only [Act.put, List.setIfInBounds_toArray, List.set_cons_zero, List.set_cons_succ, i64_w, i32_w]
        rfl
      refine pure_ (i := 11) (N := some 51) (v := ?_) (a' := ?_) #[true, true, true, true, true, true, true, true, true, true, true, true, false, false, false, false, false, false, false, false, false] rfl rfl (any_of HT_.out (by kernel_rfl)) (fun _ _ _ h => h) (Or.inl ⟨by rfl, ?_⟩) ?_ ?_
      rotate_left
      · intro w'
        go_simp
        with_reducible rfl
      rotate_left
      · simp only [Act.put, List.setIfInBounds_toArray, List.set_cons_zero, List.set_cons_succ, i64_w, i32_w]
        rfl
      refine take_ (i := 12) (N := some 52) (v := ?_) (a' := ?_) #[true, true, true, true, true, true, true, true, true, true, true, true, true, false, false, false, false, false, false, false, false] rfl rfl (take_ofW HT_.out HW_.out (by kernel_rfl)) (fun _ _ _ h => h) (Or.inl ⟨by rfl, ?_⟩) hHeld ?_ ?_
      rotate_left
      · rintro w' ⟨s0, s1, s2, s3, s4, s5, s6, s7⟩
        go_simp
        with_reducible rfl
      rotate_left
      · simp only [Act.put, List.setIfInBounds_toArray, List.set_cons_zero, List.set_cons_succ, i64_w, i32_w]
        rfl
      refine take_ (i := 13) (N := some 53) (v := ?_) (a' := ?_) #[true, true, true, true, true, true, true, true, true, true, true, true, true, true, false, false, false, false, false, false, false] rfl rfl (take_ofW HT_.out HW_.out (by kernel_rfl)) (fun _ _ _ h => h) (Or.inl ⟨by rfl, ?_⟩) hHeld ?_ ?_
      rotate_left
      · rintro w' ⟨s0, s1, s2, s3, s4, s5, s6, s7⟩
        go_simp
        with_reducible rfl
      rotate_left
      · simp only [Act.put, List.setIfInBounds_toArray, List.set_cons_zero, List.set_cons_succ, i64_w, i32_w]
        rfl
      refine pure_ (i := 14) (N := some 54) (v := ?_) (a' := ?_) #[true, true, true, true, true, true, true, true, true, true, true, true, true, true, true, false, false, false, false, false, false] rfl rfl (any_of HT_.out (by kernel_rfl)) (fun _ _ _ h => h) (Or.inl ⟨by rfl, ?_⟩) ?_ ?_
      rotate_left
      · intro w'
        go_simp
        with_reducible rfl
      rotate_left
      · simp only [Act.put, List.setIfInBounds_toArray, List.set_cons_zero, List.set_cons_succ, i64_w, i32_w]
        rfl
      refine take_ (i := 15) (N := some 55) (v := ?_) (a' := ?_) #[true, true, true, true, true, true, true, true, true, true, true, true, true, true, true, true, false, false, false, false, false] rfl rfl (take_ofW HT_.out HW_.out (by kernel_rfl)) (fun _ _ _ h => h) (Or.inl ⟨by rfl, ?_⟩) hHeld ?_ ?_
      rotate_left
      · rintro w' ⟨s0, s1, s2, s3, s4, s5, s6, s7⟩
        go_simp
        with_reducible rfl
      rotate_left
      · simp only [Act.put, List.setIfInBounds_toArray, List.set_cons_zero, List.set_cons_succ, i64_w, i32_w]
        rfl
      refine pure_ (i := 16) (N := some 56) (v := ?_) (a' := ?_) #[true, true, true, true, true, true, true, true, true, true, true, true, true, true, true, true, true, false, false, false, false] rfl rfl (any_of HT_.out (by kernel_rfl)) (fun _ _ _ h => h) (Or.inl ⟨by rfl, ?_⟩) ?_ ?_
      rotate_left
      · intro w'
        go_simp
        with_reducible rfl
      rotate_left
      · simp only [Act.put, List.setIfInBounds_toArray, List.set_cons_zero, List.set_cons_succ, i64_w, i32_w]
        rfl
      refine take_ (i := 17) (N := some 57) (v := ?_) (a' := ?_) #[true, true, true, true, true, true, true, true, true, true, true, true, true, true, true, true, true, true, false, false, false] rfl rfl (take_ofW HT_.out HW_.out (by kernel_rfl)) (fun _ _ _ h => h) (Or.inl ⟨by rfl, ?_⟩) hHeld ?_ ?_
      rotate_left
      · rintro w' ⟨s0, s1, s2, s3, s4, s5, s6, s7⟩
        go_simp
        with_reducible rfl
      rotate_left
      · simp only [Act.put, List.setIfInBounds_toArray, List.set_cons_zero, List.set_cons_succ, i64_w, i32_w]
        rfl
      refine one_ (i := 18) (N := some 58) #[true, true, true, true, true, true, true, true, true, true, true, true, true, true, true, true, true, true, true, false, false] rfl rfl (one_of HT_.out (by kernel_rfl)) (by decide) (fun K hK => ?_)
      refine goes_ Try.func113 (by kernel_rfl) rfl #[.agg #[.int .i64 n, .slice A l.length c], .slice A2 dd.length c2, .int .i64 (j : Int), .agg #[.int .i64 x.f0, .int .i64 x.f1, .bool x.f2, .bool x.f3, .int .i64 x.f4]] (by rfl) rfl rfl (by (try simp only [List.map_toArray, List.map_cons, List.map_nil]); first | done | rfl | (simp only [List.length_drop, List.length_take]; rfl)) ?_
      with_reducible refine (stoldv (j : Int) HT.out (Kd.C_below HR.out SD.out.S.hB) HC.out (Kd.C_below HR2.out SD.out.S.hB) HC2.out HL.out q0 HJN.out HDL.out).mono ?_; rintro e w' ⟨rfl, hb⟩
      refine ⟨_, rfl, ?_⟩
      have SD := Aside0.mk (SD.out.up hb)
      refine hK.out _ _ ⟨pw_cell_below hb hHeld.1, pw_cell_below hb hHeld.2.1, pw_cell_below hb hHeld.2.2.1, pw_cell_below hb hHeld.2.2.2.1, pw_cell_below hb hHeld.2.2.2.2.1, pw_cell_below hb hHeld.2.2.2.2.2.1, pw_cell_below hb hHeld.2.2.2.2.2.2.1, pw_cell_below hb hHeld.2.2.2.2.2.2.2⟩ (fun hHeld => ?_)
      clear hK K
      refine norm_ (a' := ?_) ?_ ?_
      rotate_left
      · show Act.put _ (some 58) _ = _
        simp only [Act.put, List.setIfInBounds_toArray, List.set_cons_zero, List.set_cons_succ, i64_w, i32_w]
        rfl
      refine pure_ (i := 19) (N := some 59) (v := ?_) (a' := ?_) #[true, true, true, true, true, true, true, true, true, true, true, true, true, true, true, true, true, true, true, true, false] rfl rfl (any_of HT_.out (by kernel_rfl)) (fun _ _ _ h => h) (Or.inl ⟨by rfl, ?_⟩) ?_ ?_
      rotate_left
      · intro w'
        go_simp
        with_reducible rfl
      rotate_left
      · simp only [Act.put, List.setIfInBounds_toArray, List.set_cons_zero, List.set_cons_succ, i64_w, i32_w]
        rfl
      refine pure_ (i := 20) (N := some 60) (v := ?_) (a' := ?_) #[true, true, true, true, true, true, true, true, true, true, true, true, true, true, true, true, true, true, true, true, true] rfl rfl (any_of HT_.out (by kernel_rfl)) (fun _ _ _ h => h) (Or.inl ⟨by rfl, ?_⟩) ?_ ?_
      rotate_left
      · intro w'
        go_simp
        with_reducible rfl
      rotate_left
      · simp only [Act.put, List.setIfInBounds_toArray, List.set_cons_zero, List.set_cons_succ, i64_w, i32_w]
        rfl
      refine done_ (done_of HT_.out (by kernel_rfl)) ?_
      clear kl0 kl1 kz2 kx0 kx1 kx2 kx3 kx4 S2 hne I1 I2 HT hb
      obtain ⟨kl0, kl1, kz2, kx0, kx1, kx2, kx3, kx4⟩ := hHeld
      have HRV : (!((decide (x.f1 < 0) || deadAt l dd (j : Int)) && !x.f2) && !(x.f3 && (x.f1 == 0) && (x.f4 == -1) && !x.f2)) = true := HRS.out
      clear HRS
      have W1 := Aside0.mk (show wrap64 ((j : Int) + 1) = ((j + 1 : Nat) : Int) from (wrap_id (by omega) (by have := H60.out; omega)).trans (by omega))
      go_upto_region 8 with fail
      cases hp : decide (x.f1 < 0) <;> cases hq : x.f2 <;> cases hd : deadAt l dd (j : Int) <;> cases hr : x.f3 <;> cases hz : (x.f1 == 0) <;> cases hm : (x.f4 == -1) <;> rw [hp, hq, hd, hr, hz, hm] at HRV <;>
      first
      | (simp at HRV; done)
      | (clear HRV
         rw [hq] at kx2
         rw [hr] at kx3
         have HD := Aside0.mk hd
         clear hd
         go_wp2_with (go_at_call 114; refine (sdeadv (j : Int) HD.out (Kd.C_below HR.out SD.out.S.hB) HC.out (Kd.C_below HR2.out SD.out.S.hB) HC2.out HL.out q0 HJN.out HDL.out).mono ?_; rintro e w9 ⟨rfl, hb⟩; have SD := Aside0.mk (SD.out.up hb); have kx0 := pw_cell_below hb kx0; have kx1 := pw_cell_below hb kx1; have kx2 := pw_cell_below hb kx2; have kx3 := pw_cell_below hb kx3; have kx4 := pw_cell_below hb kx4; clear hb)
         go_roundg gk
         case measure => omega
         case rel => exact ⟨j + 1, congrArg (Value.int .i64) W1.out, ⟨by have := HJ.out; omega⟩, ⟨SD.out.S⟩⟩)
    · have hlt' : decide ((j : Int) < (ss.length : Int)) = false := decide_eq_false (by omega)
      go_wp2
      go_ret
      exact ⟨rfl, SL.out.hB⟩
end Go.Proofs.Ytpdnabhpkdchjaa.P
namespace Go.Proofs.Ytpdnabhpkdchjaa.P
open Go.RowKit Go.Proofs.YtpdnabhpkdchjaaW.PrintWords Go.Proofs.YtpdnabhpkdchjaaW.PrintLast Go.Proofs.YtpdnabhpkdchjaaW.PrintMore
attribute [local go_sem ↓] Go.wp_at_zero Go.wp_at_succ
set_option linter.unusedVariables false
set_option linter.unusedSimpArgs false
structure SpSt (w0 w : World) (gl gz go ge gd : Nat) (lv zv sv ev dv : List Value) (v1 v2 : Value) (ss : List S50) (dd : List Bool) : Prop where
  D : DoSt w0 w gl go ge gd lv sv ev dv v1 v2 ss dd
  hz : w.heap[gz]? = some (.cells zv.toArray 46 (0, 0))
section
variable {w0 w w' : World} {gl gz go ge gd : Nat} {lv zv sv ev dv : List Value} {v1 v2 : Value} {ss ss' : List S50} {dd dd' : List Bool}
theorem SpSt.up (h : SpSt w0 w gl gz go ge gd lv zv sv ev dv v1 v2 ss dd) (hb : Below w.heap.size w w') : SpSt w0 w' gl gz go ge gd lv zv sv ev dv v1 v2 ss dd := ⟨h.D.up hb, blk_below h.hz hb⟩
theorem SpSt.sec {gr m cr : Nat} (h : SpSt w0 w gl gz go ge gd lv zv sv ev dv (.slice (some ⟨gr, 0, none⟩) m cr) v2 ss dd) (H1 : Kd.R k50 50 w' w0.heap.size (fun _ => True) (.slice (some ⟨gr, 0, none⟩) m cr) ss') (hg : w.grownBy w' (some gr)) :
    SpSt w0 w' gl gz go ge gd lv zv sv ev dv (.slice (some ⟨gr, 0, none⟩) m cr) v2 ss' dd := ⟨h.D.sec H1 hg, blk_grown h.hz hg (Kd.R_ne h.D.H1 h.hz (by decide))⟩
theorem SpSt.dead {gb m cb : Nat} (h : SpSt w0 w gl gz go ge gd lv zv sv ev dv v1 (.slice (some ⟨gb, 0, none⟩) m cb) ss dd) (i : Int) (x : Bool) :
    SpSt w0 (w.setCell ⟨gb, i.toNat, none⟩ (.bool x)) gl gz go ge gd lv zv sv ev dv v1 (.slice (some ⟨gb, 0, none⟩) m cb) ss (dd.set i.toNat x) :=
  ⟨h.D.dead i x, blk_grown h.hz (Kd.R_putg h.D.H2 i x).2 (Kd.R_ne h.D.H2 h.hz (by decide))⟩
end
theorem in_any (s : Int) (bo : Bool) (g gr n c : Nat) (v2 : Value) (l : List S50) (w : World) (base : Nat) (ok : Nat → Prop) (h1 : s < n)
    (hb : w.heap[g]? = some (.cells #[.bool bo, .slice (some ⟨gr, 0, none⟩) n c, v2] 46 (0, 0))) (HO : Kd.R k50 50 w base ok (.slice (some ⟨gr, 0, none⟩) n c) l) :
    Calls Try.prog 118 #[.pointer (some ⟨g, 0, none⟩), .int .i64 s, .int .i64 1] w fun e w' => e = .returned (.tuple #[]) ∧ Kd.R k50 50 w' base ok (.slice (some ⟨gr, 0, none⟩) n c) (addS l s 1) ∧ w.grownBy w' (some gr) := by
  by_cases h0 : s < 0
  · refine (add_none s 1 _ w h0).mono ?_
    rintro e w' ⟨he, rfl⟩
    exact ⟨he, by rw [addS, if_pos h0]; exact HO, World.grownBy.refl w _⟩
  · rw [addS, if_neg h0]
    exact add_in s bo g gr n c v2 l w base ok (by omega) h1 hb HO
theorem out_any (s : Int) (bo : Bool) (g gr n c : Nat) (v2 : Value) (l : List S50) (w : World) (base : Nat) (ok : Nat → Prop) (h1 : s < n)
    (hb : w.heap[g]? = some (.cells #[.bool bo, .slice (some ⟨gr, 0, none⟩) n c, v2] 46 (0, 0))) (HO : Kd.R k50 50 w base ok (.slice (some ⟨gr, 0, none⟩) n c) l) :
    Calls Try.prog 118 #[.pointer (some ⟨g, 0, none⟩), .int .i64 s, .int .i64 (-1)] w fun e w' => e = .returned (.tuple #[]) ∧ Kd.R k50 50 w' base ok (.slice (some ⟨gr, 0, none⟩) n c) (addS l s (-1)) ∧ w.grownBy w' (some gr) := by
  by_cases h0 : s < 0
  · refine (add_none s (-1) _ w h0).mono ?_
    rintro e w' ⟨he, rfl⟩
    exact ⟨he, by rw [addS, if_pos h0]; exact HO, World.grownBy.refl w _⟩
  · rw [addS, if_neg h0]
    exact add_out s bo g gr n c v2 l w base ok (by omega) h1 hb HO
section
variable {n : Int} {A : Option Addr} {c : Nat} {l : List S88} {b : Bool} {A1 : Option Addr} {c1 : Nat} {ss : List S50} {A2 : Option Addr} {c2 : Nat} {dd : List Bool} {w : World}
theorem sev_at {v : Bool} (op of dir : Int) (hv : eventOk n l op of dir = v) (hr : Kd.C k88 w A l.length l) (hc : l.length ≤ c) : Calls Try.prog 34 #[.agg #[.int .i64 n, .slice A l.length c], .agg #[.int .i64 op, .int .i64 of, .int .i64 dir]] w fun e w' => e = .returned (.bool v) ∧ Below w.heap.size w w' := hv ▸ sev_is op of dir hr hc
theorem sdead_at {x : Bool} (i : Int) (hx : deadAt l dd i = x) (hr : Kd.C k88 w A l.length l) (hc : l.length ≤ c) (hr2 : Kd.C Kd.bool w A2 dd.length dd) (hc2 : dd.length ≤ c2) (hl : layoutOk n l = 0) (h0 : 0 ≤ i) (h1 : i < n) (hd : dd.length = l.length) :
    Calls Try.prog 114 #[.agg #[.int .i64 n, .slice A l.length c], .slice A2 dd.length c2, .int .i64 i] w fun e w' => e = .returned (.bool x) ∧ Below w.heap.size w w' := by
  obtain ⟨k, h⟩ := (specDead_ev n l dd i hl ⟨h0, h1⟩ hd).rounds
  rw [← hx]
  exact spec_l2dead.calls k n A c l A2 c2 dd i _ w hr hc hr2 hc2 h
theorem stold_of {m2 b2 : Nat} {o2 : Nat → Prop} (i : Int) (x : S50) (hr : Kd.C k88 w A l.length l) (hc : l.length ≤ c) (H2 : Kd.R Kd.bool 4 w b2 o2 (.slice A2 m2 c2) dd) (e2 : m2 = dd.length) (hl : layoutOk n l = 0) (h0 : 0 ≤ i) (h1 : i < n) (hd : dd.length = l.length) :
    Calls Try.prog 113 #[.agg #[.int .i64 n, .slice A l.length c], .slice A2 m2 c2, .int .i64 i, .agg #[.int .i64 x.f0, .int .i64 x.f1, .bool x.f2, .bool x.f3, .int .i64 x.f4]] w fun e w' => e = .returned (.int .i64 (toldC l dd i x)) ∧ Below w.heap.size w w' := by
  subst e2
  obtain ⟨k, h⟩ := (specTold_ev n l dd i x hl ⟨h0, h1⟩ hd).rounds
  exact spec_l2told.calls k n A c l A2 c2 dd i x.f0 x.f1 x.f2 x.f3 x.f4 _ w hr hc (Kd.R_reads' H2).2.2 (Kd.R_reads' H2).2.1 h
end
def loseTo (ss : List S50) (f t : Int) : Nat → List S50
  | 0 => ss
  | 1 => loseAt ss f
  | _ => loseAt (loseAt ss f) t
set_option maxHeartbeats 4000000 in
set_option maxRecDepth 100000 in
theorem sdo_badE (n : Int) (A : Option Addr) (c : Nat) (l : List S88) (b : Bool) (A1 : Option Addr) (c1 : Nat) (ss : List S50) (A2 : Option Addr) (c2 : Nat) (dd : List Bool) (op of dir : Int) (w : World)
    (hr : Kd.C k88 w A l.length l) (hc : l.length ≤ c) (hr1 : Kd.C k50 w A1 ss.length ss) (hc1 : ss.length ≤ c1) (hr2 : Kd.C Kd.bool w A2 dd.length dd) (hc2 : dd.length ≤ c2) (hst : stateOk n l b ss dd = true) (hev : eventOk n l op of dir = false) :
    Calls Try.prog 69 #[.agg #[.int .i64 n, .slice A l.length c], .agg #[.bool b, .slice A1 ss.length c1, .slice A2 dd.length c2], .agg #[.int .i64 op, .int .i64 of, .int .i64 dir]] w fun e w' => e = .returned (.agg #[.int .i64 1, .bool false, .slice none 0 0, .slice none 0 0]) ∧ Below w.heap.size w w' := by
  have HR := Aside0.mk hr
  have HR1 := Aside0.mk hr1
  have HR2 := Aside0.mk hr2
  clear hr hr1 hr2
  go_enter Try.func69, Try.ntmps69
  go_upto_region 1 with (first | ((with_reducible refine gate_dst (N := 3) rfl ?_); refine box_event ?hg (N := 3) ?hd (cs := #[.int .i64 n, .slice A l.length c]) (t := 30) ?hr ?_; (case hd => rfl); (case hg => rfl); (case hr => first | (go_simp; done) | (go_simp; rfl)); intro gl el wl kl bl) | ((with_reducible refine gate_dst (N := 4) rfl ?_); refine box_event ?hg (N := 4) ?hd (cs := #[.bool b, .slice A1 ss.length c1, .slice A2 dd.length c2]) (t := 46) ?hr ?_; (case hd => rfl); (case hg => rfl); (case hr => first | (go_simp; done) | (go_simp; rfl)); intro gz ez wz kz bz) | ((with_reducible refine gate_dst (N := 5) rfl ?_); refine box_event ?hg (N := 5) ?hd (cs := #[.int .i64 op, .int .i64 of, .int .i64 dir]) (t := 56) ?hr ?_; (case hd => rfl); (case hg => rfl); (case hr => first | (go_simp; done) | (go_simp; rfl)); intro ge ee we ke be) | ((with_reducible refine gate_dst (N := 6) rfl ?_); refine box_event ?hg (N := 6) ?hd (cs := #[.int .i64 0, .bool false, .slice none 0 0, .slice none 0 0]) (t := 48) ?hr ?_; (case hd => rfl); (case hg => rfl); (case hr => first | (go_simp; done) | (go_simp; rfl)); intro gd ed wd kd_ bd))
  have KL := Aside0.mk (blk_below (blk_below (blk_below kl bz) be) bd)
  have KZ := Aside0.mk (blk_below (blk_below kz be) bd)
  have KE := Aside0.mk (blk_below ke bd)
  have KD := Aside0.mk kd_
  have BB := Aside0.mk (below_step (below_step (below_step bl bz) be) bd)
  have GL := Aside0.mk (show w.heap.size ≤ gl by rw [el]; exact Nat.le_refl _)
  have GZ := Aside0.mk (show w.heap.size ≤ gz by rw [ez]; exact bl.size)
  have GE := Aside0.mk (show w.heap.size ≤ ge by rw [ee]; exact (below_step bl bz).size)
  have GD := Aside0.mk (show w.heap.size ≤ gd by rw [ed]; exact (below_step (below_step bl bz) be).size)
  clear kl kz ke kd_ bl bz be bd el ez ee ed
  simp only [Act.put, List.setIfInBounds_toArray, List.set_cons_zero, List.set_cons_succ]
  have kl0 : wd.cell? ⟨gl, 0, none⟩ = some (.int .i64 n) := (blk_cell KL.out 0).trans rfl
  have kl1 : wd.cell? ⟨gl, 1, none⟩ = some (.slice A l.length c) := (blk_cell KL.out 1).trans rfl
  have kz0 : wd.cell? ⟨gz, 0, none⟩ = some (.bool b) := (blk_cell KZ.out 0).trans rfl
  have kz1 : wd.cell? ⟨gz, 1, none⟩ = some (.slice A1 ss.length c1) := (blk_cell KZ.out 1).trans rfl
  have kz2 : wd.cell? ⟨gz, 2, none⟩ = some (.slice A2 dd.length c2) := (blk_cell KZ.out 2).trans rfl
  have ke0 : wd.cell? ⟨ge, 0, none⟩ = some (.int .i64 op) := (blk_cell KE.out 0).trans rfl
  have ke1 : wd.cell? ⟨ge, 1, none⟩ = some (.int .i64 of) := (blk_cell KE.out 1).trans rfl
  have ke2 : wd.cell? ⟨ge, 2, none⟩ = some (.int .i64 dir) := (blk_cell KE.out 2).trans rfl
  have kd0 : wd.cell? ⟨gd, 0, none⟩ = some (.int .i64 0) := (blk_cell KD.out 0).trans rfl
  have kd1 : wd.cell? ⟨gd, 1, none⟩ = some (.bool false) := (blk_cell KD.out 1).trans rfl
  have kd2 : wd.cell? ⟨gd, 2, none⟩ = some (.slice none 0 0) := (blk_cell KD.out 2).trans rfl
  have kd3 : wd.cell? ⟨gd, 3, none⟩ = some (.slice none 0 0) := (blk_cell KD.out 3).trans rfl
  have zd0 := blk_frozen KD.out 0
  have zd1 := blk_frozen KD.out 1
  have zd2 := blk_frozen KD.out 2
  have zd3 := blk_frozen KD.out 3
  go_wp2_with (first | (go_at_call 56; refine (sst_ok hst (Kd.C_below HR.out BB.out) hc (Kd.C_below HR1.out BB.out) hc1 (Kd.C_below HR2.out BB.out) hc2).mono ?_; rintro e w1 ⟨rfl, hb⟩; have KL := Aside0.mk (blk_below KL.out hb); have KZ := Aside0.mk (blk_below KZ.out hb); have KE := Aside0.mk (blk_below KE.out hb); have KD := Aside0.mk (blk_below KD.out hb); have BB := Aside0.mk (below_step BB.out hb); clear hb; have kl0 : w1.cell? ⟨gl, 0, none⟩ = some (.int .i64 n) := (blk_cell KL.out 0).trans rfl; have kl1 : w1.cell? ⟨gl, 1, none⟩ = some (.slice A l.length c) := (blk_cell KL.out 1).trans rfl; have kz0 : w1.cell? ⟨gz, 0, none⟩ = some (.bool b) := (blk_cell KZ.out 0).trans rfl; have kz1 : w1.cell? ⟨gz, 1, none⟩ = some (.slice A1 ss.length c1) := (blk_cell KZ.out 1).trans rfl; have kz2 : w1.cell? ⟨gz, 2, none⟩ = some (.slice A2 dd.length c2) := (blk_cell KZ.out 2).trans rfl; have ke0 : w1.cell? ⟨ge, 0, none⟩ = some (.int .i64 op) := (blk_cell KE.out 0).trans rfl; have ke1 : w1.cell? ⟨ge, 1, none⟩ = some (.int .i64 of) := (blk_cell KE.out 1).trans rfl; have ke2 : w1.cell? ⟨ge, 2, none⟩ = some (.int .i64 dir) := (blk_cell KE.out 2).trans rfl; have kd0 : w1.cell? ⟨gd, 0, none⟩ = some (.int .i64 0) := (blk_cell KD.out 0).trans rfl; have kd1 : w1.cell? ⟨gd, 1, none⟩ = some (.bool false) := (blk_cell KD.out 1).trans rfl; have kd2 : w1.cell? ⟨gd, 2, none⟩ = some (.slice none 0 0) := (blk_cell KD.out 2).trans rfl; have kd3 : w1.cell? ⟨gd, 3, none⟩ = some (.slice none 0 0) := (blk_cell KD.out 3).trans rfl; have zd0 := blk_frozen KD.out 0; have zd1 := blk_frozen KD.out 1; have zd2 := blk_frozen KD.out 2; have zd3 := blk_frozen KD.out 3) | (go_at_call 34; refine (sev_at op of dir hev (Kd.C_below HR.out BB.out) hc).mono ?_; rintro e w2 ⟨rfl, hb⟩; have KL := Aside0.mk (blk_below KL.out hb); have KZ := Aside0.mk (blk_below KZ.out hb); have KE := Aside0.mk (blk_below KE.out hb); have KD := Aside0.mk (blk_below KD.out hb); have BB := Aside0.mk (below_step BB.out hb); clear hb; have kl0 : w2.cell? ⟨gl, 0, none⟩ = some (.int .i64 n) := (blk_cell KL.out 0).trans rfl; have kl1 : w2.cell? ⟨gl, 1, none⟩ = some (.slice A l.length c) := (blk_cell KL.out 1).trans rfl; have kz0 : w2.cell? ⟨gz, 0, none⟩ = some (.bool b) := (blk_cell KZ.out 0).trans rfl; have kz1 : w2.cell? ⟨gz, 1, none⟩ = some (.slice A1 ss.length c1) := (blk_cell KZ.out 1).trans rfl; have kz2 : w2.cell? ⟨gz, 2, none⟩ = some (.slice A2 dd.length c2) := (blk_cell KZ.out 2).trans rfl; have ke0 : w2.cell? ⟨ge, 0, none⟩ = some (.int .i64 op) := (blk_cell KE.out 0).trans rfl; have ke1 : w2.cell? ⟨ge, 1, none⟩ = some (.int .i64 of) := (blk_cell KE.out 1).trans rfl; have ke2 : w2.cell? ⟨ge, 2, none⟩ = some (.int .i64 dir) := (blk_cell KE.out 2).trans rfl; have kd0 : w2.cell? ⟨gd, 0, none⟩ = some (.int .i64 0) := (blk_cell KD.out 0).trans rfl; have kd1 : w2.cell? ⟨gd, 1, none⟩ = some (.bool false) := (blk_cell KD.out 1).trans rfl; have kd2 : w2.cell? ⟨gd, 2, none⟩ = some (.slice none 0 0) := (blk_cell KD.out 2).trans rfl; have kd3 : w2.cell? ⟨gd, 3, none⟩ = some (.slice none 0 0) := (blk_cell KD.out 3).trans rfl; have zd0 := blk_frozen KD.out 0; have zd1 := blk_frozen KD.out 1; have zd2 := blk_frozen KD.out 2; have zd3 := blk_frozen KD.out 3))
  have KF := blk_put (blk_put (blk_put (blk_put KD.out 0 (.int .i64 1) rfl) 1 (.bool false) rfl) 2 (.slice none 0 0) rfl) 3 (.slice none 0 0) rfl
  have BF := below_set (j := 3) (v := .slice none 0 0) (below_set (j := 2) (v := .slice none 0 0) (below_set (j := 1) (v := .bool false) (below_set (j := 0) (v := .int .i64 1) BB.out GD.out) GD.out) GD.out) GD.out
  exact bodyPost_ret (results_cell_row rfl _ _ gd 48 _ (0, 0) _ rfl KF Try.underlying48 rfl (by kernel_rfl)) rfl ⟨rfl, BF⟩
def sd_T38 : Bool × List (List Nat × List Nat) := (true, [([], []), ([0], [0]), ([], []), ([], []), ([], []), ([4], [4]), ([], []), ([], []), ([7], [7]), ([], []), ([8, 9], [8, 9]), ([10], [10]), ([3, 5, 6, 11], [3, 5, 6, 11]), ([1, 2, 0, 1, 2, 3, 4, 5, 6, 7, 8, 9, 10, 11, 12], [1, 2]), ([13, 0, 1, 2, 3, 4, 5, 6, 7, 8, 9, 10, 11, 12], [13]), ([14, 12, 12, 0, 1, 2, 3, 4, 5, 6, 7, 8, 9, 10, 11, 12], [12, 14])])
def sd_B38 : List Nat := [0, 1, 0, 0, 0, 16, 0, 0, 128, 0, 896, 1920, 4088, 8191, 16383, 32767]
theorem sd_tab38 : rtab .any (opsOf Try.f69 38) = sd_T38 := by kernel_rfl
theorem sd_bits38 : waitsOk sd_T38.2 sd_B38 = true := by kernel_rfl
set_option maxHeartbeats 16000000 in
set_option maxRecDepth 100000 in
theorem sdo_is (n : Int) (A : Option Addr) (c : Nat) (l : List S88) (b : Bool) (A1 : Option Addr) (c1 : Nat) (ss : List S50) (A2 : Option Addr) (c2 : Nat) (dd : List Bool) (op of dir : Int) (w : World)
    (hr : Kd.C k88 w A l.length l) (hc : l.length ≤ c) (hr1 : Kd.C k50 w A1 ss.length ss) (hc1 : ss.length ≤ c1) (hr2 : Kd.C Kd.bool w A2 dd.length dd) (hc2 : dd.length ≤ c2)
    (hst : stateOk n l b ss dd = true) (hev : eventOk n l op of dir = true) :
    Calls Try.prog 69 #[.agg #[.int .i64 n, .slice A l.length c], .agg #[.bool b, .slice A1 ss.length c1, .slice A2 dd.length c2], .agg #[.int .i64 op, .int .i64 of, .int .i64 dir]] w fun e w' => ∃ v2_ v3_ : Value, e = .returned (.agg #[.int .i64 (doCode l ss dd op of), .bool true, v2_, v3_]) ∧ Kd.R k50 50 w' w.heap.size (fun _ => True) v2_ (doSecs l ss dd op of dir) ∧ Kd.R Kd.bool 4 w' w.heap.size (fun _ => True) v3_ (doDead l ss dd op of) ∧ Below w.heap.size w w' := by
  obtain ⟨hl, rfl, hns, hnd, hsec⟩ := stateOk_of hst
  have hn := lay_n hl
  have hs : ss.length ≤ 1048576 := by omega
  have hd : dd.length ≤ 1048576 := by omega
  have hpos : 0 < ss.length := by omega
  have HST := Aside0.mk hst
  have HEV := Aside0.mk hev
  have HSE := Aside0.mk hsec
  have HN := Aside0.mk (And.intro hl (And.intro hns (And.intro hnd hn)))
  clear hst hev hsec hl hns hnd hn
  have HR := Aside0.mk hr
  have HR1 := Aside0.mk hr1
  have HR2 := Aside0.mk hr2
  clear hr hr1 hr2
  go_enter Try.func69, Try.ntmps69
  go_upto_region 1 with (first | ((with_reducible refine gate_dst (N := 3) rfl ?_); refine box_event ?hg (N := 3) ?hd (cs := #[.int .i64 n, .slice A l.length c]) (t := 30) ?hr ?_; (case hd => rfl); (case hg => rfl); (case hr => first | (go_simp; done) | (go_simp; rfl)); intro gl el wl kl bl) | ((with_reducible refine gate_dst (N := 4) rfl ?_); refine box_event ?hg (N := 4) ?hd (cs := #[.bool true, .slice A1 ss.length c1, .slice A2 dd.length c2]) (t := 46) ?hr ?_; (case hd => rfl); (case hg => rfl); (case hr => first | (go_simp; done) | (go_simp; rfl)); intro gz ez wz kz bz) | ((with_reducible refine gate_dst (N := 5) rfl ?_); refine box_event ?hg (N := 5) ?hd (cs := #[.int .i64 op, .int .i64 of, .int .i64 dir]) (t := 56) ?hr ?_; (case hd => rfl); (case hg => rfl); (case hr => first | (go_simp; done) | (go_simp; rfl)); intro ge ee we ke be) | ((with_reducible refine gate_dst (N := 6) rfl ?_); refine box_event ?hg (N := 6) ?hd (cs := #[.int .i64 0, .bool false, .slice none 0 0, .slice none 0 0]) (t := 48) ?hr ?_; (case hd => rfl); (case hg => rfl); (case hr => first | (go_simp; done) | (go_simp; rfl)); intro gd ed wd kd_ bd))
  have KL := Aside0.mk (blk_below (blk_below (blk_below kl bz) be) bd)
  have KZ := Aside0.mk (blk_below (blk_below kz be) bd)
  have KE := Aside0.mk (blk_below ke bd)
  have KD := Aside0.mk kd_
  have BB := Aside0.mk (below_step (below_step (below_step bl bz) be) bd)
  have GL := Aside0.mk (show w.heap.size ≤ gl by rw [el]; exact Nat.le_refl _)
  have GZ := Aside0.mk (show w.heap.size ≤ gz by rw [ez]; exact bl.size)
  have GE := Aside0.mk (show w.heap.size ≤ ge by rw [ee]; exact (below_step bl bz).size)
  have GD := Aside0.mk (show w.heap.size ≤ gd by rw [ed]; exact (below_step (below_step bl bz) be).size)
  clear kl kz ke kd_ bl bz be bd el ez ee ed
  simp only [Act.put, List.setIfInBounds_toArray, List.set_cons_zero, List.set_cons_succ]
  have kl0 : wd.cell? ⟨gl, 0, none⟩ = some (.int .i64 n) := (blk_cell KL.out 0).trans rfl
  have kl1 : wd.cell? ⟨gl, 1, none⟩ = some (.slice A l.length c) := (blk_cell KL.out 1).trans rfl
  have kz0 : wd.cell? ⟨gz, 0, none⟩ = some (.bool true) := (blk_cell KZ.out 0).trans rfl
  have kz1 : wd.cell? ⟨gz, 1, none⟩ = some (.slice A1 ss.length c1) := (blk_cell KZ.out 1).trans rfl
  have kz2 : wd.cell? ⟨gz, 2, none⟩ = some (.slice A2 dd.length c2) := (blk_cell KZ.out 2).trans rfl
  have ke0 : wd.cell? ⟨ge, 0, none⟩ = some (.int .i64 op) := (blk_cell KE.out 0).trans rfl
  have ke1 : wd.cell? ⟨ge, 1, none⟩ = some (.int .i64 of) := (blk_cell KE.out 1).trans rfl
  have ke2 : wd.cell? ⟨ge, 2, none⟩ = some (.int .i64 dir) := (blk_cell KE.out 2).trans rfl
  have kd0 : wd.cell? ⟨gd, 0, none⟩ = some (.int .i64 0) := (blk_cell KD.out 0).trans rfl
  have kd1 : wd.cell? ⟨gd, 1, none⟩ = some (.bool false) := (blk_cell KD.out 1).trans rfl
  have kd2 : wd.cell? ⟨gd, 2, none⟩ = some (.slice none 0 0) := (blk_cell KD.out 2).trans rfl
  have kd3 : wd.cell? ⟨gd, 3, none⟩ = some (.slice none 0 0) := (blk_cell KD.out 3).trans rfl
  have zd0 := blk_frozen KD.out 0
  have zd1 := blk_frozen KD.out 1
  have zd2 := blk_frozen KD.out 2
  have zd3 := blk_frozen KD.out 3
  go_upto_region 4 with (first | (go_at_call 56; refine (sst_ok HST.out (Kd.C_below HR.out BB.out) hc (Kd.C_below HR1.out BB.out) hc1 (Kd.C_below HR2.out BB.out) hc2).mono ?_; rintro e w1 ⟨rfl, hb⟩; have KL := Aside0.mk (blk_below KL.out hb); have KZ := Aside0.mk (blk_below KZ.out hb); have KE := Aside0.mk (blk_below KE.out hb); have KD := Aside0.mk (blk_below KD.out hb); have BB := Aside0.mk (below_step BB.out hb); clear hb; have kl0 : w1.cell? ⟨gl, 0, none⟩ = some (.int .i64 n) := (blk_cell KL.out 0).trans rfl; have kl1 : w1.cell? ⟨gl, 1, none⟩ = some (.slice A l.length c) := (blk_cell KL.out 1).trans rfl; have kz0 : w1.cell? ⟨gz, 0, none⟩ = some (.bool true) := (blk_cell KZ.out 0).trans rfl; have kz1 : w1.cell? ⟨gz, 1, none⟩ = some (.slice A1 ss.length c1) := (blk_cell KZ.out 1).trans rfl; have kz2 : w1.cell? ⟨gz, 2, none⟩ = some (.slice A2 dd.length c2) := (blk_cell KZ.out 2).trans rfl; have ke0 : w1.cell? ⟨ge, 0, none⟩ = some (.int .i64 op) := (blk_cell KE.out 0).trans rfl; have ke1 : w1.cell? ⟨ge, 1, none⟩ = some (.int .i64 of) := (blk_cell KE.out 1).trans rfl; have ke2 : w1.cell? ⟨ge, 2, none⟩ = some (.int .i64 dir) := (blk_cell KE.out 2).trans rfl; have kd0 : w1.cell? ⟨gd, 0, none⟩ = some (.int .i64 0) := (blk_cell KD.out 0).trans rfl; have kd1 : w1.cell? ⟨gd, 1, none⟩ = some (.bool false) := (blk_cell KD.out 1).trans rfl; have kd2 : w1.cell? ⟨gd, 2, none⟩ = some (.slice none 0 0) := (blk_cell KD.out 2).trans rfl; have kd3 : w1.cell? ⟨gd, 3, none⟩ = some (.slice none 0 0) := (blk_cell KD.out 3).trans rfl; have zd0 := blk_frozen KD.out 0; have zd1 := blk_frozen KD.out 1; have zd2 := blk_frozen KD.out 2; have zd3 := blk_frozen KD.out 3) | (go_at_call 34; refine (sev_at op of dir HEV.out (Kd.C_below HR.out BB.out) hc).mono ?_; rintro e w2 ⟨rfl, hb⟩; have KL := Aside0.mk (blk_below KL.out hb); have KZ := Aside0.mk (blk_below KZ.out hb); have KE := Aside0.mk (blk_below KE.out hb); have KD := Aside0.mk (blk_below KD.out hb); have BB := Aside0.mk (below_step BB.out hb); clear hb; have kl0 : w2.cell? ⟨gl, 0, none⟩ = some (.int .i64 n) := (blk_cell KL.out 0).trans rfl; have kl1 : w2.cell? ⟨gl, 1, none⟩ = some (.slice A l.length c) := (blk_cell KL.out 1).trans rfl; have kz0 : w2.cell? ⟨gz, 0, none⟩ = some (.bool true) := (blk_cell KZ.out 0).trans rfl; have kz1 : w2.cell? ⟨gz, 1, none⟩ = some (.slice A1 ss.length c1) := (blk_cell KZ.out 1).trans rfl; have kz2 : w2.cell? ⟨gz, 2, none⟩ = some (.slice A2 dd.length c2) := (blk_cell KZ.out 2).trans rfl; have ke0 : w2.cell? ⟨ge, 0, none⟩ = some (.int .i64 op) := (blk_cell KE.out 0).trans rfl; have ke1 : w2.cell? ⟨ge, 1, none⟩ = some (.int .i64 of) := (blk_cell KE.out 1).trans rfl; have ke2 : w2.cell? ⟨ge, 2, none⟩ = some (.int .i64 dir) := (blk_cell KE.out 2).trans rfl; have kd0 : w2.cell? ⟨gd, 0, none⟩ = some (.int .i64 0) := (blk_cell KD.out 0).trans rfl; have kd1 : w2.cell? ⟨gd, 1, none⟩ = some (.bool false) := (blk_cell KD.out 1).trans rfl; have kd2 : w2.cell? ⟨gd, 2, none⟩ = some (.slice none 0 0) := (blk_cell KD.out 2).trans rfl; have kd3 : w2.cell? ⟨gd, 3, none⟩ = some (.slice none 0 0) := (blk_cell KD.out 3).trans rfl; have zd0 := blk_frozen KD.out 0; have zd1 := blk_frozen KD.out 1; have zd2 := blk_frozen KD.out 2; have zd3 := blk_frozen KD.out 3) | (go_at_call 93; refine (copy_is (Kd.C_below HR1.out BB.out) hc1 (Kd.C_below HR2.out BB.out) hc2 hs hd).mono ?_; rintro e w3 ⟨v1, v2, rfl, hR1, hR2, hb⟩; have H1 := Aside0.mk (Kd.R_lower hR1 BB.out.size); have H2 := Aside0.mk (Kd.R_lower hR2 BB.out.size); clear hR1 hR2; obtain ⟨gr, cr, e1, _, _, _⟩ := Kd.R_form H1.out hpos; obtain ⟨Ad, cd, e2⟩ := Kd.R_slice H2.out; subst e1 e2; have KL := Aside0.mk (blk_below KL.out hb); have KZ := Aside0.mk (blk_below KZ.out hb); have KE := Aside0.mk (blk_below KE.out hb); have KD := Aside0.mk (blk_below KD.out hb); have BB := Aside0.mk (below_step BB.out hb); clear hb; have kl0 : w3.cell? ⟨gl, 0, none⟩ = some (.int .i64 n) := (blk_cell KL.out 0).trans rfl; have kl1 : w3.cell? ⟨gl, 1, none⟩ = some (.slice A l.length c) := (blk_cell KL.out 1).trans rfl; have kz0 : w3.cell? ⟨gz, 0, none⟩ = some (.bool true) := (blk_cell KZ.out 0).trans rfl; have kz1 : w3.cell? ⟨gz, 1, none⟩ = some (.slice A1 ss.length c1) := (blk_cell KZ.out 1).trans rfl; have kz2 : w3.cell? ⟨gz, 2, none⟩ = some (.slice A2 dd.length c2) := (blk_cell KZ.out 2).trans rfl; have ke0 : w3.cell? ⟨ge, 0, none⟩ = some (.int .i64 op) := (blk_cell KE.out 0).trans rfl; have ke1 : w3.cell? ⟨ge, 1, none⟩ = some (.int .i64 of) := (blk_cell KE.out 1).trans rfl; have ke2 : w3.cell? ⟨ge, 2, none⟩ = some (.int .i64 dir) := (blk_cell KE.out 2).trans rfl; have kd0 : w3.cell? ⟨gd, 0, none⟩ = some (.int .i64 0) := (blk_cell KD.out 0).trans rfl; have kd1 : w3.cell? ⟨gd, 1, none⟩ = some (.bool false) := (blk_cell KD.out 1).trans rfl; have kd2 : w3.cell? ⟨gd, 2, none⟩ = some (.slice none 0 0) := (blk_cell KD.out 2).trans rfl; have kd3 : w3.cell? ⟨gd, 3, none⟩ = some (.slice none 0 0) := (blk_cell KD.out 3).trans rfl; have zd0 := blk_frozen KD.out 0; have zd1 := blk_frozen KD.out 1; have zd2 := blk_frozen KD.out 2; have zd3 := blk_frozen KD.out 3) | ((with_reducible refine gate_dst (N := 7) rfl ?_); refine box_event ?hg (N := 7) ?hd (cs := #[.bool false, .slice none 0 0, .slice none 0 0]) (t := 46) ?hr ?_; (case hd => rfl); (case hg => rfl); (case hr => first | (go_simp; done) | (go_simp; rfl)); intro go eo wo ko bo; have KO := Aside0.mk ko; have EO := Aside0.mk eo; have BO := Aside0.mk bo; have zo0 := blk_frozen ko 0; have zo1 := blk_frozen ko 1; have zo2 := blk_frozen ko 2; have ko0 := (blk_cell ko 0).trans (show _ = some (Value.bool false) from rfl); have ko1 := (blk_cell ko 1).trans (show _ = some (Value.slice none 0 0) from rfl); have ko2 := (blk_cell ko 2).trans (show _ = some (Value.slice none 0 0) from rfl); have ke0 := pw_cell_below bo ke0; clear bo eo ko))
  have KX := Aside0.mk (blk_put (blk_put (blk_put KO.out 0 (.bool true) rfl) 1 (.slice (some ⟨gr, 0, none⟩) ss.length cr) rfl) 2 (.slice Ad dd.length cd) rfl)
  have BX := Aside0.mk (below_set (j := 2) (v := (.slice Ad dd.length cd)) (below_set (j := 1) (v := (.slice (some ⟨gr, 0, none⟩) ss.length cr)) (below_set (j := 0) (v := .bool true) BO.out (Nat.le_of_eq EO.out.symm)) (Nat.le_of_eq EO.out.symm)) (Nat.le_of_eq EO.out.symm))
  have GO := Aside0.mk (show w.heap.size ≤ go by rw [EO.out]; exact BB.out.size)
  clear kl0 kl1 kz0 kz1 kz2 ke0 ke1 ke2 kd0 kd1 kd2 kd3 zd0 zd1 zd2 zd3 zo0 zo1 zo2 ko0 ko1 ko2
  have SA := Aside0.mk (show SpSt w (((wo.setCell ⟨go, 0, none⟩ (.bool true)).setCell ⟨go, 1, none⟩ (.slice (some ⟨gr, 0, none⟩) ss.length cr)).setCell ⟨go, 2, none⟩ (.slice Ad dd.length cd)) gl gz go ge gd [.int .i64 n, .slice A l.length c] [.bool true, .slice A1 ss.length c1, .slice A2 dd.length c2] [.bool true, .slice (some ⟨gr, 0, none⟩) ss.length cr, .slice Ad dd.length cd] [.int .i64 op, .int .i64 of, .int .i64 dir] [.int .i64 0, .bool false, .slice none 0 0, .slice none 0 0] (.slice (some ⟨gr, 0, none⟩) ss.length cr) (.slice Ad dd.length cd) ss dd from ⟨⟨blk_below KL.out BX.out, KX.out, blk_below KE.out BX.out, blk_below KD.out BX.out, R_up H1.out BX.out, R_up H2.out BX.out, below_step BB.out BX.out, GL.out, GO.out, GE.out, GD.out⟩, blk_below KZ.out BX.out⟩)
  clear KL KZ KE KD BB H1 H2 KO BO EO KX BX
  generalize (((wo.setCell ⟨go, 0, none⟩ (.bool true)).setCell ⟨go, 1, none⟩ (.slice (some ⟨gr, 0, none⟩) ss.length cr)).setCell ⟨go, 2, none⟩ (.slice Ad dd.length cd)) = wa at SA ⊢
  have kge0 : wa.cell? ⟨ge, 0, none⟩ = some (.int .i64 op) := (blk_cell SA.out.D.he 0).trans rfl
  go_upto_block 0 with fail
  clear kge0
  go_cut [8] from 9 to 126 (fun v8 wx => v8 = .int .i64 (doCode l ss dd op of) ∧ Aside0 (SpSt w wx gl gz go ge gd [.int .i64 n, .slice A l.length c] [.bool true, .slice A1 ss.length c1, .slice A2 dd.length c2] [.bool true, .slice (some ⟨gr, 0, none⟩) ss.length cr, .slice Ad dd.length cd] [.int .i64 op, .int .i64 of, .int .i64 dir] [.int .i64 0, .bool false, .slice none 0 0, .slice none 0 0] (.slice (some ⟨gr, 0, none⟩) ss.length cr) (.slice Ad dd.length cd) (midSecs2 l ss dd op of dir) (doDead l ss dd op of)))
  case first =>
    obtain ⟨hl, hns, hnd, hln⟩ := HN.out
    have HL2 := Aside0.mk hln
    rcases evOk_cases HEV.out with ⟨hop, ho0, ho1, hdir⟩ | ⟨hop, ho0, ho1⟩ | ⟨rfl, ho0, ho1⟩
    · skip
      have lr := lay_rd hl of ho0 ho1
      have ho2 := ho1
      rw [← hnd] at ho1
      obtain ⟨gb, cb, e, _, _, _⟩ := Kd.R_form SA.out.D.H2 (show 0 < dd.length by omega)
      cases e
      obtain ⟨x0, xf⟩ := bool_at SA.out.D.H2 of ho0 ho1
      obtain ⟨ad, e, y0, y1⟩ := at_T88 HR.out of ho0 ho2
      subst e
      obtain ⟨a2, e, -⟩ := HR2.out.2.2 (show 0 < dd.length by omega)
      subst e
      have u0 := Kd.foot_bool HR2.out of ho0 ho1
      have U0 := Aside0.mk u0
      have LR0 := Aside0.mk (show (rd_T88 l of).f0 < (ss.length : Int) by omega)
      have LR1 := Aside0.mk (show (rd_T88 l of).f1 < (ss.length : Int) by omega)
      clear lr hl hns hnd hln u0
      have Y0 := Aside0.mk y0
      have Y1 := Aside0.mk y1
      clear y0 y1
      rcases hop with rfl | rfl
      · skip
        have kge0 : wa.cell? ⟨ge, 0, none⟩ = some (.int .i64 1) := (blk_cell SA.out.D.he 0).trans rfl
        have kge1 : wa.cell? ⟨ge, 1, none⟩ = some (.int .i64 of) := (blk_cell SA.out.D.he 1).trans rfl
        have kge2 : wa.cell? ⟨ge, 2, none⟩ = some (.int .i64 dir) := (blk_cell SA.out.D.he 2).trans rfl
        have kgo0 : wa.cell? ⟨go, 0, none⟩ = some (.bool true) := (blk_cell SA.out.D.hs 0).trans rfl
        have kgo1 : wa.cell? ⟨go, 1, none⟩ = some (.slice (some ⟨gr, 0, none⟩) ss.length cr) := (blk_cell SA.out.D.hs 1).trans rfl
        have kgo2 : wa.cell? ⟨go, 2, none⟩ = some (.slice (some ⟨gb, 0, none⟩) dd.length cd) := (blk_cell SA.out.D.hs 2).trans rfl
        have kgz0 : wa.cell? ⟨gz, 0, none⟩ = some (.bool true) := (blk_cell SA.out.hz 0).trans rfl
        have kgz1 : wa.cell? ⟨gz, 1, none⟩ = some (.slice A1 ss.length c1) := (blk_cell SA.out.hz 1).trans rfl
        have kgz2 : wa.cell? ⟨gz, 2, none⟩ = some (.slice (some a2) dd.length c2) := (blk_cell SA.out.hz 2).trans rfl
        have kgl0 : wa.cell? ⟨gl, 0, none⟩ = some (.int .i64 n) := (blk_cell SA.out.D.hl 0).trans rfl
        have kgl1 : wa.cell? ⟨gl, 1, none⟩ = some (.slice (some ad) l.length c) := (blk_cell SA.out.D.hl 1).trans rfl
        have y0 := pw_cell_below SA.out.D.hB Y0.out
        have y1 := pw_cell_below SA.out.D.hB Y1.out
        go_upto_region 9 with (first | ((with_reducible refine gate_dst (N := 9) rfl ?_); refine box_event ?hg (N := 9) ?hd (cs := #[.int .i64 0, .int .i64 0]) (t := 88) ?hr ?_; (case hd => rfl); (case hg => rfl); (case hr => first | (go_simp; done) | (go_simp; rfl)); intro gc ec wb kc bc; have KC := Aside0.mk kc; have EC := Aside0.mk ec; have BC := Aside0.mk bc; have zc0 := blk_frozen kc 0; have zc1 := blk_frozen kc 1; have kc0 := (blk_cell kc 0).trans (show _ = some (Value.int .i64 0) from rfl); have kc1 := (blk_cell kc 1).trans (show _ = some (Value.int .i64 0) from rfl); clear kc ec bc))
        have KX := Aside0.mk (blk_put (blk_put KC.out 0 (.int .i64 (rd_T88 l of).f0) rfl) 1 (.int .i64 (rd_T88 l of).f1) rfl)
        have BX := Aside0.mk (below_set (j := 1) (v := (.int .i64 (rd_T88 l of).f1)) (below_set (j := 0) (v := (.int .i64 (rd_T88 l of).f0)) BC.out (Nat.le_of_eq EC.out.symm)) (Nat.le_of_eq EC.out.symm))
        have S1 := Aside0.mk (SA.out.up BX.out)
        clear kge0 kge1 kge2 kgo0 kgo1 kgo2 kgz0 kgz1 kgz2 kgl0 kgl1
        clear SA y0 y1 KC BC EC zc0 zc1 kc0 kc1 BX x0 xf
        generalize (wb.setCell ⟨gc, 0, none⟩ (.int .i64 (rd_T88 l of).f0)).setCell ⟨gc, 1, none⟩ (.int .i64 (rd_T88 l of).f1) = w1 at S1 KX ⊢
        have kge0 : w1.cell? ⟨ge, 0, none⟩ = some (.int .i64 1) := (blk_cell S1.out.D.he 0).trans rfl
        have kge1 : w1.cell? ⟨ge, 1, none⟩ = some (.int .i64 of) := (blk_cell S1.out.D.he 1).trans rfl
        have kge2 : w1.cell? ⟨ge, 2, none⟩ = some (.int .i64 dir) := (blk_cell S1.out.D.he 2).trans rfl
        have kgo0 : w1.cell? ⟨go, 0, none⟩ = some (.bool true) := (blk_cell S1.out.D.hs 0).trans rfl
        have kgo1 : w1.cell? ⟨go, 1, none⟩ = some (.slice (some ⟨gr, 0, none⟩) ss.length cr) := (blk_cell S1.out.D.hs 1).trans rfl
        have kgo2 : w1.cell? ⟨go, 2, none⟩ = some (.slice (some ⟨gb, 0, none⟩) dd.length cd) := (blk_cell S1.out.D.hs 2).trans rfl
        have kgz0 : w1.cell? ⟨gz, 0, none⟩ = some (.bool true) := (blk_cell S1.out.hz 0).trans rfl
        have kgz1 : w1.cell? ⟨gz, 1, none⟩ = some (.slice A1 ss.length c1) := (blk_cell S1.out.hz 1).trans rfl
        have kgz2 : w1.cell? ⟨gz, 2, none⟩ = some (.slice (some a2) dd.length c2) := (blk_cell S1.out.hz 2).trans rfl
        have kgl0 : w1.cell? ⟨gl, 0, none⟩ = some (.int .i64 n) := (blk_cell S1.out.D.hl 0).trans rfl
        have kgl1 : w1.cell? ⟨gl, 1, none⟩ = some (.slice (some ad) l.length c) := (blk_cell S1.out.D.hl 1).trans rfl
        have kc0 : w1.cell? ⟨gc, 0, none⟩ = some (.int .i64 (rd_T88 l of).f0) := (blk_cell KX.out 0).trans rfl
        have kc1 : w1.cell? ⟨gc, 1, none⟩ = some (.int .i64 (rd_T88 l of).f1) := (blk_cell KX.out 1).trans rfl
        have u0 := pw_cell_below S1.out.D.hB U0.out
        rcases Bool.eq_false_or_eq_true (rdOf false dd of) with hdo | hdo
        · rw [hdo] at u0
          have HC := Aside0.mk (show doCode l ss dd 1 of = 2 by unfold doCode; rw [if_pos (by decide), if_pos hdo])
          clear hdo
          go_wp2_with fail
          go_meet
          case rel => exact ⟨by rw [HC.out], ⟨by unfold midSecs2 doDead; rw [HC.out]; exact S1.out⟩⟩
        · rw [hdo] at u0
          have HC := Aside0.mk (show doCode l ss dd 1 of = 0 by unfold doCode; rw [if_pos (by decide), hdo]; rfl)
          clear hdo
          rcases hdir with rfl | rfl
          · skip
            go_upto_region 18 with (go_at_call 118; refine (out_any _ true go gr ss.length cr _ _ _ _ _ LR0.out S1.out.D.hs S1.out.D.H1).mono ?_; rintro e w2 ⟨rfl, hR, hg⟩; have S2 := Aside0.mk (S1.out.sec hR hg); clear hR hg)
            go_wp2_with (go_at_call 118; refine (in_any _ true go gr ss.length cr _ _ _ _ _ LR1.out S2.out.D.hs S2.out.D.H1).mono ?_; rintro e w3 ⟨rfl, hR, hg⟩; have S3 := Aside0.mk (S2.out.sec hR hg); clear hR hg)
            go_meet
            case rel => exact ⟨by rw [HC.out], ⟨by unfold midSecs2 doDead; rw [if_pos HC.out, if_pos HC.out]; exact S3.out⟩⟩
          · skip
            go_upto_region 18 with (go_at_call 118; refine (out_any _ true go gr ss.length cr _ _ _ _ _ LR1.out S1.out.D.hs S1.out.D.H1).mono ?_; rintro e w2 ⟨rfl, hR, hg⟩; have S2 := Aside0.mk (S1.out.sec hR hg); clear hR hg)
            go_wp2_with (go_at_call 118; refine (in_any _ true go gr ss.length cr _ _ _ _ _ LR0.out S2.out.D.hs S2.out.D.H1).mono ?_; rintro e w3 ⟨rfl, hR, hg⟩; have S3 := Aside0.mk (S2.out.sec hR hg); clear hR hg)
            go_meet
            case rel => exact ⟨by rw [HC.out], ⟨by unfold midSecs2 doDead; rw [if_pos HC.out, if_pos HC.out]; exact S3.out⟩⟩
      · skip
        have kge0 : wa.cell? ⟨ge, 0, none⟩ = some (.int .i64 2) := (blk_cell SA.out.D.he 0).trans rfl
        have kge1 : wa.cell? ⟨ge, 1, none⟩ = some (.int .i64 of) := (blk_cell SA.out.D.he 1).trans rfl
        have kge2 : wa.cell? ⟨ge, 2, none⟩ = some (.int .i64 dir) := (blk_cell SA.out.D.he 2).trans rfl
        have kgo0 : wa.cell? ⟨go, 0, none⟩ = some (.bool true) := (blk_cell SA.out.D.hs 0).trans rfl
        have kgo1 : wa.cell? ⟨go, 1, none⟩ = some (.slice (some ⟨gr, 0, none⟩) ss.length cr) := (blk_cell SA.out.D.hs 1).trans rfl
        have kgo2 : wa.cell? ⟨go, 2, none⟩ = some (.slice (some ⟨gb, 0, none⟩) dd.length cd) := (blk_cell SA.out.D.hs 2).trans rfl
        have kgz0 : wa.cell? ⟨gz, 0, none⟩ = some (.bool true) := (blk_cell SA.out.hz 0).trans rfl
        have kgz1 : wa.cell? ⟨gz, 1, none⟩ = some (.slice A1 ss.length c1) := (blk_cell SA.out.hz 1).trans rfl
        have kgz2 : wa.cell? ⟨gz, 2, none⟩ = some (.slice (some a2) dd.length c2) := (blk_cell SA.out.hz 2).trans rfl
        have kgl0 : wa.cell? ⟨gl, 0, none⟩ = some (.int .i64 n) := (blk_cell SA.out.D.hl 0).trans rfl
        have kgl1 : wa.cell? ⟨gl, 1, none⟩ = some (.slice (some ad) l.length c) := (blk_cell SA.out.D.hl 1).trans rfl
        have y0 := pw_cell_below SA.out.D.hB Y0.out
        have y1 := pw_cell_below SA.out.D.hB Y1.out
        go_upto_region 9 with (first | ((with_reducible refine gate_dst (N := 9) rfl ?_); refine box_event ?hg (N := 9) ?hd (cs := #[.int .i64 0, .int .i64 0]) (t := 88) ?hr ?_; (case hd => rfl); (case hg => rfl); (case hr => first | (go_simp; done) | (go_simp; rfl)); intro gc ec wb kc bc; have KC := Aside0.mk kc; have EC := Aside0.mk ec; have BC := Aside0.mk bc; have zc0 := blk_frozen kc 0; have zc1 := blk_frozen kc 1; have kc0 := (blk_cell kc 0).trans (show _ = some (Value.int .i64 0) from rfl); have kc1 := (blk_cell kc 1).trans (show _ = some (Value.int .i64 0) from rfl); clear kc ec bc))
        have KX := Aside0.mk (blk_put (blk_put KC.out 0 (.int .i64 (rd_T88 l of).f0) rfl) 1 (.int .i64 (rd_T88 l of).f1) rfl)
        have BX := Aside0.mk (below_set (j := 1) (v := (.int .i64 (rd_T88 l of).f1)) (below_set (j := 0) (v := (.int .i64 (rd_T88 l of).f0)) BC.out (Nat.le_of_eq EC.out.symm)) (Nat.le_of_eq EC.out.symm))
        have S1 := Aside0.mk (SA.out.up BX.out)
        clear kge0 kge1 kge2 kgo0 kgo1 kgo2 kgz0 kgz1 kgz2 kgl0 kgl1
        clear SA y0 y1 KC BC EC zc0 zc1 kc0 kc1 BX x0 xf
        generalize (wb.setCell ⟨gc, 0, none⟩ (.int .i64 (rd_T88 l of).f0)).setCell ⟨gc, 1, none⟩ (.int .i64 (rd_T88 l of).f1) = w1 at S1 KX ⊢
        have kge0 : w1.cell? ⟨ge, 0, none⟩ = some (.int .i64 2) := (blk_cell S1.out.D.he 0).trans rfl
        have kge1 : w1.cell? ⟨ge, 1, none⟩ = some (.int .i64 of) := (blk_cell S1.out.D.he 1).trans rfl
        have kge2 : w1.cell? ⟨ge, 2, none⟩ = some (.int .i64 dir) := (blk_cell S1.out.D.he 2).trans rfl
        have kgo0 : w1.cell? ⟨go, 0, none⟩ = some (.bool true) := (blk_cell S1.out.D.hs 0).trans rfl
        have kgo1 : w1.cell? ⟨go, 1, none⟩ = some (.slice (some ⟨gr, 0, none⟩) ss.length cr) := (blk_cell S1.out.D.hs 1).trans rfl
        have kgo2 : w1.cell? ⟨go, 2, none⟩ = some (.slice (some ⟨gb, 0, none⟩) dd.length cd) := (blk_cell S1.out.D.hs 2).trans rfl
        have kgz0 : w1.cell? ⟨gz, 0, none⟩ = some (.bool true) := (blk_cell S1.out.hz 0).trans rfl
        have kgz1 : w1.cell? ⟨gz, 1, none⟩ = some (.slice A1 ss.length c1) := (blk_cell S1.out.hz 1).trans rfl
        have kgz2 : w1.cell? ⟨gz, 2, none⟩ = some (.slice (some a2) dd.length c2) := (blk_cell S1.out.hz 2).trans rfl
        have kgl0 : w1.cell? ⟨gl, 0, none⟩ = some (.int .i64 n) := (blk_cell S1.out.D.hl 0).trans rfl
        have kgl1 : w1.cell? ⟨gl, 1, none⟩ = some (.slice (some ad) l.length c) := (blk_cell S1.out.D.hl 1).trans rfl
        have kc0 : w1.cell? ⟨gc, 0, none⟩ = some (.int .i64 (rd_T88 l of).f0) := (blk_cell KX.out 0).trans rfl
        have kc1 : w1.cell? ⟨gc, 1, none⟩ = some (.int .i64 (rd_T88 l of).f1) := (blk_cell KX.out 1).trans rfl
        have u0 := pw_cell_below S1.out.D.hB U0.out
        rcases Bool.eq_false_or_eq_true (rdOf false dd of) with hdo | hdo
        · rw [hdo] at u0
          have HC := Aside0.mk (show doCode l ss dd 2 of = 2 by unfold doCode; rw [if_pos (by decide), if_pos hdo])
          clear hdo
          go_wp2_with fail
          go_meet
          case rel => exact ⟨by rw [HC.out], ⟨by unfold midSecs2 doDead; rw [HC.out]; exact S1.out⟩⟩
        · rw [hdo] at u0
          have HC := Aside0.mk (show doCode l ss dd 2 of = 0 by unfold doCode; rw [if_pos (by decide), hdo]; rfl)
          clear hdo
          rcases hdir with rfl | rfl
          · skip
            go_wp2_with (go_at_call 118; refine (in_any _ true go gr ss.length cr _ _ _ _ _ LR1.out S1.out.D.hs S1.out.D.H1).mono ?_; rintro e w3 ⟨rfl, hR, hg⟩; have S3 := Aside0.mk (S1.out.sec hR hg); clear hR hg)
            go_meet
            case rel => exact ⟨by rw [HC.out], ⟨by unfold midSecs2 doDead; rw [if_pos HC.out, if_pos HC.out]; exact S3.out⟩⟩
          · skip
            go_wp2_with (go_at_call 118; refine (in_any _ true go gr ss.length cr _ _ _ _ _ LR0.out S1.out.D.hs S1.out.D.H1).mono ?_; rintro e w3 ⟨rfl, hR, hg⟩; have S3 := Aside0.mk (S1.out.sec hR hg); clear hR hg)
            go_meet
            case rel => exact ⟨by rw [HC.out], ⟨by unfold midSecs2 doDead; rw [if_pos HC.out, if_pos HC.out]; exact S3.out⟩⟩
    · skip
      have lr := lay_rd hl of ho0 ho1
      have ho2 := ho1
      rw [← hnd] at ho1
      obtain ⟨gb, cb, e, _, _, _⟩ := Kd.R_form SA.out.D.H2 (show 0 < dd.length by omega)
      cases e
      obtain ⟨x0, xf⟩ := bool_at SA.out.D.H2 of ho0 ho1
      obtain ⟨ad, e, y0, y1⟩ := at_T88 HR.out of ho0 ho2
      subst e
      obtain ⟨a2, e, -⟩ := HR2.out.2.2 (show 0 < dd.length by omega)
      subst e
      have u0 := Kd.foot_bool HR2.out of ho0 ho1
      have U0 := Aside0.mk u0
      have LR0 := Aside0.mk (show (rd_T88 l of).f0 < (ss.length : Int) by omega)
      have LR1 := Aside0.mk (show (rd_T88 l of).f1 < (ss.length : Int) by omega)
      clear lr hl hns hnd hln u0
      have Y0 := Aside0.mk y0
      have Y1 := Aside0.mk y1
      clear y0 y1
      have HC := Aside0.mk (show doCode l ss dd op of = 0 by unfold doCode; rw [if_neg (by omega), if_neg (by omega)])
      have HM := Aside0.mk (show midSecs2 l ss dd op of dir = midSecs l ss op of dir by unfold midSecs2; rw [if_pos HC.out])
      have HD := Aside0.mk (show doDead l ss dd op of = midDead dd op of by unfold doDead; rw [if_pos HC.out])
      rcases hop with rfl | rfl
      · skip
        have kge0 : wa.cell? ⟨ge, 0, none⟩ = some (.int .i64 3) := (blk_cell SA.out.D.he 0).trans rfl
        have kge1 : wa.cell? ⟨ge, 1, none⟩ = some (.int .i64 of) := (blk_cell SA.out.D.he 1).trans rfl
        have kge2 : wa.cell? ⟨ge, 2, none⟩ = some (.int .i64 dir) := (blk_cell SA.out.D.he 2).trans rfl
        have kgo0 : wa.cell? ⟨go, 0, none⟩ = some (.bool true) := (blk_cell SA.out.D.hs 0).trans rfl
        have kgo1 : wa.cell? ⟨go, 1, none⟩ = some (.slice (some ⟨gr, 0, none⟩) ss.length cr) := (blk_cell SA.out.D.hs 1).trans rfl
        have kgo2 : wa.cell? ⟨go, 2, none⟩ = some (.slice (some ⟨gb, 0, none⟩) dd.length cd) := (blk_cell SA.out.D.hs 2).trans rfl
        have kgz0 : wa.cell? ⟨gz, 0, none⟩ = some (.bool true) := (blk_cell SA.out.hz 0).trans rfl
        have kgz1 : wa.cell? ⟨gz, 1, none⟩ = some (.slice A1 ss.length c1) := (blk_cell SA.out.hz 1).trans rfl
        have kgz2 : wa.cell? ⟨gz, 2, none⟩ = some (.slice (some a2) dd.length c2) := (blk_cell SA.out.hz 2).trans rfl
        have kgl0 : wa.cell? ⟨gl, 0, none⟩ = some (.int .i64 n) := (blk_cell SA.out.D.hl 0).trans rfl
        have kgl1 : wa.cell? ⟨gl, 1, none⟩ = some (.slice (some ad) l.length c) := (blk_cell SA.out.D.hl 1).trans rfl
        go_upto_region 21 with fail
        have S1 := Aside0.mk (SA.out.dead of true)
        clear kge0 kge1 kge2 kgo0 kgo1 kgo2 kgz0 kgz1 kgz2 kgl0 kgl1
        clear SA x0 xf
        generalize wa.setCell ⟨gb, of.toNat, none⟩ (.bool true) = w1 at S1 ⊢
        have kge1 : w1.cell? ⟨ge, 1, none⟩ = some (.int .i64 of) := (blk_cell S1.out.D.he 1).trans rfl
        have kgl1 : w1.cell? ⟨gl, 1, none⟩ = some (.slice (some ad) l.length c) := (blk_cell S1.out.D.hl 1).trans rfl
        have y0 := pw_cell_below S1.out.D.hB Y0.out
        have y1 := pw_cell_below S1.out.D.hB Y1.out
        go_region_held3 (fun w' => w'.cell? ⟨gl, 1, none⟩ = some (.slice (some ad) l.length c) ∧ w'.cell? ⟨ge, 1, none⟩ = some (.int .i64 of) ∧ w'.cell? (ad.add (of.toNat * 2)) = some (.int .i64 (rd_T88 l of).f0) ∧ w'.cell? ⟨(ad.add (of.toNat * 2)).block, (ad.add (of.toNat * 2)).off + 1, none⟩ = some (.int .i64 (rd_T88 l of).f1))
          (first | go_keep | (go_split_ands; (repeat' apply And.intro) <;> (refine pw_cell_below (below_alloc (Below.refl _ _) _) ?_; assumption)))
          (fail)
        have S2 := Aside0.mk (S1.out.up (below_drew1 (below_alloc (Below.refl w1.heap.size w1) (.cells #[.int .i64 (rd_T88 l of).f0, .int .i64 (rd_T88 l of).f1] 3))))
        have KS : Aside0 (((w1.alloc (.cells #[.int .i64 (rd_T88 l of).f0, .int .i64 (rd_T88 l of).f1] 3)).drew).heap[w1.heap.size]? = some (.cells #[.int .i64 (rd_T88 l of).f0, .int .i64 (rd_T88 l of).f1] 3 (0, 0))) := ⟨blk_drew (heap_alloc_new w1 _)⟩
        clear S1 kge1 kgl1 y0 y1
        generalize (w1.alloc (.cells #[.int .i64 (rd_T88 l of).f0, .int .i64 (rd_T88 l of).f1] 3)).drew = w2 at S2 KS ⊢
        generalize w1.heap.size = gq at KS ⊢
        go_wp2_with fail
        go_loopg [86] 2 (fun kq v w' => ∃ i : Int, v = .int .i64 i ∧ Aside0 ((i = 0 ∧ kq = 2) ∨ (i = 1 ∧ kq = 1) ∨ (i = 2 ∧ kq = 0)) ∧ Aside0 (w'.heap[gq]? = some (.cells #[.int .i64 (rd_T88 l of).f0, .int .i64 (rd_T88 l of).f1] 3 (0, 0))) ∧ Aside0 (SpSt w w' gl gz go ge gd [.int .i64 n, .slice (some ad) l.length c] [.bool true, .slice A1 ss.length c1, .slice (some a2) dd.length c2] [.bool true, .slice (some ⟨gr, 0, none⟩) ss.length cr, .slice (some ⟨gb, 0, none⟩) dd.length cd] [.int .i64 3, .int .i64 of, .int .i64 dir] [.int .i64 0, .bool false, .slice none 0 0, .slice none 0 0] (.slice (some ⟨gr, 0, none⟩) ss.length cr) (.slice (some ⟨gb, 0, none⟩) dd.length cd) (loseTo ss (rd_T88 l of).f0 (rd_T88 l of).f1 i.toNat) (dd.set of.toNat true)))
        case atStart => exact ⟨0, rfl, ⟨.inl ⟨rfl, rfl⟩⟩, KS, S2⟩
        case round =>
          clear S2 KS
          obtain ⟨i, rfl, HI, KS, SL⟩ := hrel
          rcases HI.out with ⟨rfl, rfl⟩ | ⟨rfl, rfl⟩ | ⟨rfl, rfl⟩
          · have kk : wr.cell? ⟨gq, 0, none⟩ = some (.int .i64 (rd_T88 l of).f0) := (blk_cell KS.out 0).trans rfl
            have kgo1 : wr.cell? ⟨go, 1, none⟩ = some (.slice (some ⟨gr, 0, none⟩) ss.length cr) := (blk_cell SL.out.D.hs 1).trans rfl
            by_cases h0 : (rd_T88 l of).f0 < 0
            · have h0b : decide ((rd_T88 l of).f0 ≥ 0) = false := decide_eq_false (by omega)
              have H0 := Aside0.mk h0
              clear h0
              go_wp2_with fail
              go_roundg 1
              case measure => omega
              case rel => exact ⟨1, rfl, ⟨.inr (.inl ⟨rfl, rfl⟩)⟩, KS, ⟨by rw [show (1 : Int).toNat = 1 from rfl, show loseTo ss _ _ 1 = loseTo ss _ _ 0 from if_pos H0.out]; exact SL.out⟩⟩
            · have h0b : decide ((rd_T88 l of).f0 ≥ 0) = true := decide_eq_true (by omega)
              have h1 : 0 ≤ (rd_T88 l of).f0 := by omega
              have h2 := LR0.out
              have H0 := Aside0.mk h0
              have H1 := Aside0.mk h1
              clear h0
              obtain ⟨z0, z1, z2, z3, z4, zf0, zf1, zf2, zf3, zf4⟩ := sec_at SL.out.D.H1 (rd_T88 l of).f0 h1 h2
              have hp1 := eq_true h1
              have hp2 := eq_true h2
              clear h1 h2 z0 z1 z3 z4 zf0 zf1 zf3 zf4
              go_wp2_with fail
              obtain ⟨hR, hg⟩ := (SecSt.start SL.out.D.H1 H1.out LR0.out).put2 H1.out LR0.out (u := true) rfl
              have S3 := Aside0.mk (SL.out.sec hR hg)
              have K3 := Aside0.mk (blk_grown KS.out hg (Kd.R_ne SL.out.D.H1 KS.out (by decide)))
              clear hR hg
              go_roundg 1
              case measure => omega
              case rel => exact ⟨1, rfl, ⟨.inr (.inl ⟨rfl, rfl⟩)⟩, K3, ⟨by rw [show (1 : Int).toNat = 1 from rfl, show loseTo ss (rd_T88 l of).f0 (rd_T88 l of).f1 1 = _ from if_neg (show ¬ (rd_T88 l of).f0 < 0 by have := H1.out; omega)]; exact S3.out⟩⟩
          · have kk : wr.cell? ⟨gq, 1, none⟩ = some (.int .i64 (rd_T88 l of).f1) := (blk_cell KS.out 1).trans rfl
            have kgo1 : wr.cell? ⟨go, 1, none⟩ = some (.slice (some ⟨gr, 0, none⟩) ss.length cr) := (blk_cell SL.out.D.hs 1).trans rfl
            by_cases h0 : (rd_T88 l of).f1 < 0
            · have h0b : decide ((rd_T88 l of).f1 ≥ 0) = false := decide_eq_false (by omega)
              have H0 := Aside0.mk h0
              clear h0
              go_wp2_with fail
              go_roundg 0
              case measure => omega
              case rel => exact ⟨2, rfl, ⟨.inr (.inr ⟨rfl, rfl⟩)⟩, KS, ⟨by rw [show (2 : Int).toNat = 2 from rfl, show loseTo ss (rd_T88 l of).f0 (rd_T88 l of).f1 2 = loseTo ss (rd_T88 l of).f0 (rd_T88 l of).f1 1 from if_pos H0.out]; exact SL.out⟩⟩
            · have h0b : decide ((rd_T88 l of).f1 ≥ 0) = true := decide_eq_true (by omega)
              have h1 : 0 ≤ (rd_T88 l of).f1 := by omega
              have h2 := LR1.out
              have H0 := Aside0.mk h0
              have H1 := Aside0.mk h1
              clear h0
              obtain ⟨z0, z1, z2, z3, z4, zf0, zf1, zf2, zf3, zf4⟩ := sec_at SL.out.D.H1 (rd_T88 l of).f1 h1 h2
              have hp1 := eq_true h1
              have hp2 := eq_true h2
              clear h1 h2 z0 z1 z3 z4 zf0 zf1 zf3 zf4
              go_wp2_with fail
              obtain ⟨hR, hg⟩ := (SecSt.start SL.out.D.H1 H1.out LR1.out).put2 H1.out LR1.out (u := true) rfl
              have S3 := Aside0.mk (SL.out.sec hR hg)
              have K3 := Aside0.mk (blk_grown KS.out hg (Kd.R_ne SL.out.D.H1 KS.out (by decide)))
              clear hR hg
              go_roundg 0
              case measure => omega
              case rel => exact ⟨2, rfl, ⟨.inr (.inr ⟨rfl, rfl⟩)⟩, K3, ⟨by rw [show (2 : Int).toNat = 2 from rfl, show loseTo ss (rd_T88 l of).f0 (rd_T88 l of).f1 2 = _ from if_neg (show ¬ (rd_T88 l of).f1 < 0 by have := H1.out; omega)]; exact S3.out⟩⟩
          · go_wp2_with fail
            go_meet
            case rel => exact ⟨by rw [HC.out], ⟨by rw [HM.out, HD.out]; exact SL.out⟩⟩
      · skip
        have kge0 : wa.cell? ⟨ge, 0, none⟩ = some (.int .i64 4) := (blk_cell SA.out.D.he 0).trans rfl
        have kge1 : wa.cell? ⟨ge, 1, none⟩ = some (.int .i64 of) := (blk_cell SA.out.D.he 1).trans rfl
        have kge2 : wa.cell? ⟨ge, 2, none⟩ = some (.int .i64 dir) := (blk_cell SA.out.D.he 2).trans rfl
        have kgo0 : wa.cell? ⟨go, 0, none⟩ = some (.bool true) := (blk_cell SA.out.D.hs 0).trans rfl
        have kgo1 : wa.cell? ⟨go, 1, none⟩ = some (.slice (some ⟨gr, 0, none⟩) ss.length cr) := (blk_cell SA.out.D.hs 1).trans rfl
        have kgo2 : wa.cell? ⟨go, 2, none⟩ = some (.slice (some ⟨gb, 0, none⟩) dd.length cd) := (blk_cell SA.out.D.hs 2).trans rfl
        have kgz0 : wa.cell? ⟨gz, 0, none⟩ = some (.bool true) := (blk_cell SA.out.hz 0).trans rfl
        have kgz1 : wa.cell? ⟨gz, 1, none⟩ = some (.slice A1 ss.length c1) := (blk_cell SA.out.hz 1).trans rfl
        have kgz2 : wa.cell? ⟨gz, 2, none⟩ = some (.slice (some a2) dd.length c2) := (blk_cell SA.out.hz 2).trans rfl
        have kgl0 : wa.cell? ⟨gl, 0, none⟩ = some (.int .i64 n) := (blk_cell SA.out.D.hl 0).trans rfl
        have kgl1 : wa.cell? ⟨gl, 1, none⟩ = some (.slice (some ad) l.length c) := (blk_cell SA.out.D.hl 1).trans rfl
        go_wp2_with fail
        go_meet
        case rel => exact ⟨by rw [HC.out], ⟨by rw [HM.out, HD.out]; exact SA.out.dead of false⟩⟩
    · rw [← hns] at ho1
      have HLL := Aside0.mk (show l.length ≤ 1048576 by omega)
      have HND := Aside0.mk hnd
      have HO0 := Aside0.mk ho0
      have HO1 := Aside0.mk ho1
      have HLY := Aside0.mk hl
      have HON := Aside0.mk (show of < n by omega)
      obtain ⟨a1, e, y0, y1, y2, y3, y4⟩ := at_T50 HR1.out of ho0 ho1
      subst e
      have Y4 := Aside0.mk y4
      clear y0 y1 y2 y3 y4 hl hns hnd hln
      have kge0 : wa.cell? ⟨ge, 0, none⟩ = some (.int .i64 5) := (blk_cell SA.out.D.he 0).trans rfl
      have kge1 : wa.cell? ⟨ge, 1, none⟩ = some (.int .i64 of) := (blk_cell SA.out.D.he 1).trans rfl
      have kge2 : wa.cell? ⟨ge, 2, none⟩ = some (.int .i64 dir) := (blk_cell SA.out.D.he 2).trans rfl
      have kgo0 : wa.cell? ⟨go, 0, none⟩ = some (.bool true) := (blk_cell SA.out.D.hs 0).trans rfl
      have kgo1 : wa.cell? ⟨go, 1, none⟩ = some (.slice (some ⟨gr, 0, none⟩) ss.length cr) := (blk_cell SA.out.D.hs 1).trans rfl
      have kgo2 : wa.cell? ⟨go, 2, none⟩ = some (.slice Ad dd.length cd) := (blk_cell SA.out.D.hs 2).trans rfl
      have kgz0 : wa.cell? ⟨gz, 0, none⟩ = some (.bool true) := (blk_cell SA.out.hz 0).trans rfl
      have kgz1 : wa.cell? ⟨gz, 1, none⟩ = some (.slice (some a1) ss.length c1) := (blk_cell SA.out.hz 1).trans rfl
      have kgz2 : wa.cell? ⟨gz, 2, none⟩ = some (.slice A2 dd.length c2) := (blk_cell SA.out.hz 2).trans rfl
      have kgl0 : wa.cell? ⟨gl, 0, none⟩ = some (.int .i64 n) := (blk_cell SA.out.D.hl 0).trans rfl
      have kgl1 : wa.cell? ⟨gl, 1, none⟩ = some (.slice A l.length c) := (blk_cell SA.out.D.hl 1).trans rfl
      rcases Bool.eq_false_or_eq_true (deadAt l dd of) with hdo | hdo
      · have HDO := Aside0.mk hdo
        have HC := Aside0.mk (show doCode l ss dd 5 of = 3 by unfold doCode; rw [if_neg (by decide), if_pos rfl, if_pos hdo])
        clear hdo
        go_wp2_with (go_at_call 114; refine (sdead_at of HDO.out (Kd.C_below HR.out SA.out.D.hB) hc (Kd.C_below HR2.out SA.out.D.hB) hc2 HLY.out HO0.out HON.out HND.out).mono ?_; rintro e w1 ⟨rfl, hb⟩; have S1 := Aside0.mk (SA.out.up hb); clear hb)
        go_meet
        case rel => exact ⟨by rw [HC.out], ⟨by unfold midSecs2 doDead; rw [HC.out]; exact S1.out⟩⟩
      · have HDO := Aside0.mk hdo
        clear hdo
        go_upto_region 32 with (go_at_call 114; refine (sdead_at of HDO.out (Kd.C_below HR.out SA.out.D.hB) hc (Kd.C_below HR2.out SA.out.D.hB) hc2 HLY.out HO0.out HON.out HND.out).mono ?_; rintro e w1 ⟨rfl, hb⟩; have S1 := Aside0.mk (SA.out.up hb); clear hb)
        clear kge0 kge1 kge2 kgo0 kgo1 kgo2 kgz0 kgz1 kgz2 kgl0 kgl1
        clear SA
        have kge0 : w1.cell? ⟨ge, 0, none⟩ = some (.int .i64 5) := (blk_cell S1.out.D.he 0).trans rfl
        have kge1 : w1.cell? ⟨ge, 1, none⟩ = some (.int .i64 of) := (blk_cell S1.out.D.he 1).trans rfl
        have kge2 : w1.cell? ⟨ge, 2, none⟩ = some (.int .i64 dir) := (blk_cell S1.out.D.he 2).trans rfl
        have kgo0 : w1.cell? ⟨go, 0, none⟩ = some (.bool true) := (blk_cell S1.out.D.hs 0).trans rfl
        have kgo1 : w1.cell? ⟨go, 1, none⟩ = some (.slice (some ⟨gr, 0, none⟩) ss.length cr) := (blk_cell S1.out.D.hs 1).trans rfl
        have kgo2 : w1.cell? ⟨go, 2, none⟩ = some (.slice Ad dd.length cd) := (blk_cell S1.out.D.hs 2).trans rfl
        have kgz0 : w1.cell? ⟨gz, 0, none⟩ = some (.bool true) := (blk_cell S1.out.hz 0).trans rfl
        have kgz1 : w1.cell? ⟨gz, 1, none⟩ = some (.slice (some a1) ss.length c1) := (blk_cell S1.out.hz 1).trans rfl
        have kgz2 : w1.cell? ⟨gz, 2, none⟩ = some (.slice A2 dd.length c2) := (blk_cell S1.out.hz 2).trans rfl
        have kgl0 : w1.cell? ⟨gl, 0, none⟩ = some (.int .i64 n) := (blk_cell S1.out.D.hl 0).trans rfl
        have kgl1 : w1.cell? ⟨gl, 1, none⟩ = some (.slice A l.length c) := (blk_cell S1.out.D.hl 1).trans rfl
        have y4 := pw_cell_below S1.out.D.hB Y4.out
        have ho0 := HO0.out
        have ho1 := HO1.out
        obtain ⟨z0, z1, z2, z3, z4, zf0, zf1, zf2, zf3, zf4⟩ := sec_at S1.out.D.H1 of ho0 ho1
        have hr4 : (rd_T50 ss of).f4 ≤ 1 := by have := secOk_range (HSE.out of.toNat (by omega)); rw [show ((of.toNat : Nat) : Int) = of by omega] at this; omega
        by_cases hla : (rd_T50 ss of).f4 = 1
        · have hla1 : decide ((rd_T50 ss of).f4 > 0) = true := decide_eq_true (by omega)
          have HC := Aside0.mk (show doCode l ss dd 5 of = 4 by unfold doCode; rw [if_neg (by decide), if_pos rfl, HDO.out, if_neg (by decide), if_pos hla])
          clear hla hr4
          go_wp2_with fail
          go_meet
          case rel => exact ⟨by rw [HC.out], ⟨by unfold midSecs2 doDead; rw [HC.out]; exact S1.out⟩⟩
        · have hla1 : decide ((rd_T50 ss of).f4 > 0) = false := decide_eq_false (by omega)
          have HC := Aside0.mk (show doCode l ss dd 5 of = 0 by unfold doCode; rw [if_neg (by decide), if_pos rfl, HDO.out, if_neg (by decide), if_neg hla])
          clear hla hr4
          go_wp2_with fail
          go_meet
          case rel =>
            obtain ⟨hR, hg⟩ := ((((SecSt.start S1.out.D.H1 HO0.out HO1.out).put0 HO0.out HO1.out (u := 0) rfl).put1 HO0.out HO1.out (u := 0) rfl).put2 HO0.out HO1.out (u := false) rfl |>.put3 HO0.out HO1.out (u := true) rfl).put4 HO0.out HO1.out (u := 0) rfl
            exact ⟨by rw [HC.out], ⟨by unfold midSecs2 doDead; rw [if_pos HC.out, if_pos HC.out]; exact S1.out.sec hR hg⟩⟩
  case rest =>
    obtain ⟨rfl, SM⟩ := hcut
    have HLM := Aside0.mk (midSecs2_length l ss dd op of dir)
    have HLD := Aside0.mk (doDead_length l ss dd op of)
    have HDS := Aside0.mk (retold_mid (op := op) (of := of) (dir := dir) HSE.out)
    generalize hq1 : doCode l ss dd op of = code
    have HQ := Aside0.mk hq1
    clear hq1
    clear SA
    generalize midSecs2 l ss dd op of dir = ms at SM HLM HDS
    generalize hmd : doDead l ss dd op of = md at SM HLD HDS
    have HMD := Aside0.mk hmd
    clear hmd
    have kgo1 : wc.cell? ⟨go, 1, none⟩ = some (.slice (some ⟨gr, 0, none⟩) ss.length cr) := (blk_cell SM.out.D.hs 1).trans rfl
    go_wp2_with fail
    go_loopg [130] ss.length (fun kq v w' => ∃ j : Nat, v = .int .i64 j ∧ Aside0 (j + kq = ss.length) ∧ Aside0 (SpSt w w' gl gz go ge gd [.int .i64 n, .slice A l.length c] [.bool true, .slice A1 ss.length c1, .slice A2 dd.length c2] [.bool true, .slice (some ⟨gr, 0, none⟩) ss.length cr, .slice Ad dd.length cd] [.int .i64 op, .int .i64 of, .int .i64 dir] [.int .i64 0, .bool false, .slice none 0 0, .slice none 0 0] (.slice (some ⟨gr, 0, none⟩) ss.length cr) (.slice Ad dd.length cd) (retoldTo l md ms j) md))
    case atStart => exact ⟨0, rfl, ⟨by omega⟩, ⟨by rw [retoldTo_zero]; exact SM.out⟩⟩
    case round =>
      obtain ⟨j, rfl, HJ, SL⟩ := hrel
      clear SM kgo1
      by_cases hlt : j < ss.length
      · cases gk with
        | zero => exact absurd HJ.out (by omega)
        | succ gk =>
          have hlt' : decide ((j : Int) < (ss.length : Int)) = true := decide_eq_true (by omega)
          have q0 : (0 : Int) ≤ (j : Int) := by omega
          have q1 : (j : Int) < (ss.length : Int) := by omega
          have q2 : ss.length ≤ 60 := by have := HN.out; omega
          go_upto_block 4 with fail
          go_cut [14] from 132 to 147 (fun v14 wx => Aside0 (SpSt w wx gl gz go ge gd [.int .i64 n, .slice A l.length c] [.bool true, .slice A1 ss.length c1, .slice A2 dd.length c2] [.bool true, .slice (some ⟨gr, 0, none⟩) ss.length cr, .slice Ad dd.length cd] [.int .i64 op, .int .i64 of, .int .i64 dir] [.int .i64 0, .bool false, .slice none 0 0, .slice none 0 0] (.slice (some ⟨gr, 0, none⟩) ss.length cr) (.slice Ad dd.length cd) (retoldTo l md ms (j + 1)) md))
          case first =>
            have HML := Aside0.mk (show md.length = l.length by rw [HLD.out]; exact HN.out.2.2.1)
            have n1 : gr ≠ go := fun e => Kd.R_ne SL.out.D.H1 SL.out.D.hs (by decide) (by rw [e]; rfl)
            have n2 : gr ≠ gl := fun e => Kd.R_ne SL.out.D.H1 SL.out.D.hl (by decide) (by rw [e]; rfl)
            have SD := Aside0.mk (SL.out.up (below_drew1 (Below.refl wr.heap.size wr)))
            have kgl0 : wr.cell? ⟨gl, 0, none⟩ = some (.int .i64 n) := (blk_cell SL.out.D.hl 0).trans rfl
            have kgl1 : wr.cell? ⟨gl, 1, none⟩ = some (.slice A l.length c) := (blk_cell SL.out.D.hl 1).trans rfl
            have kgo1 : wr.cell? ⟨go, 1, none⟩ = some (.slice (some ⟨gr, 0, none⟩) ss.length cr) := (blk_cell SL.out.D.hs 1).trans rfl
            have kgo2 : wr.cell? ⟨go, 2, none⟩ = some (.slice Ad dd.length cd) := (blk_cell SL.out.D.hs 2).trans rfl
            obtain ⟨z0, z1, z2, z3, z4, -, -, -, -, -⟩ := sec_at SL.out.D.H1 (j : Int) q0 q1
            rw [Int.toNat_natCast] at z0 z1 z2 z3 z4
            have HLN := Aside0.mk (show (retoldTo l md ms j).length = ss.length by rw [retoldTo_length, HLM.out])
            have HLM2 := Aside0.mk (show dd.length = md.length from HLD.out.symm)
            have HJN := Aside0.mk (show (j : Int) < n by have := HN.out; omega)
            have HRS := Aside0.mk (retold_step l md ms j (by rw [HLM.out]; exact hlt))
            generalize hx : rd_T50 (retoldTo l md ms j) (j : Int) = x at z0 z1 z2 z3 z4 HRS
            have HX := Aside0.mk hx
            clear hx
            go_upto_region 38 with fail
            have dkgl0 : wr.drew.cell? ⟨gl, 0, none⟩ = some (.int .i64 n) := kgl0
            have dkgl1 : wr.drew.cell? ⟨gl, 1, none⟩ = some (.slice A l.length c) := kgl1
            have dkgo1 : wr.drew.cell? ⟨go, 1, none⟩ = some (.slice (some ⟨gr, 0, none⟩) ss.length cr) := kgo1
            have dkgo2 : wr.drew.cell? ⟨go, 2, none⟩ = some (.slice Ad dd.length cd) := kgo2
            have dz0 : wr.drew.cell? ⟨gr, j * 5, none⟩ = some (.int .i64 x.f0) := z0
            have dz1 : wr.drew.cell? ⟨gr, j * 5 + 1, none⟩ = some (.int .i64 x.f1) := z1
            have dz2 : wr.drew.cell? ⟨gr, j * 5 + 2, none⟩ = some (.bool x.f2) := z2
            have dz3 : wr.drew.cell? ⟨gr, j * 5 + 3, none⟩ = some (.bool x.f3) := z3
            have dz4 : wr.drew.cell? ⟨gr, j * 5 + 4, none⟩ = some (.int .i64 x.f4) := z4
            refine start_ (n := 16) (S := fun w' => w'.cell? ⟨gl, 0, none⟩ = some (.int .i64 n) ∧ w'.cell? ⟨gl, 1, none⟩ = some (.slice A l.length c) ∧ w'.cell? ⟨go, 1, none⟩ = some (.slice (some ⟨gr, 0, none⟩) ss.length cr) ∧ w'.cell? ⟨go, 2, none⟩ = some (.slice Ad dd.length cd) ∧ w'.cell? ⟨gr, j * 5, none⟩ = some (.int .i64 x.f0) ∧ w'.cell? ⟨gr, j * 5 + 1, none⟩ = some (.int .i64 x.f1) ∧ w'.cell? ⟨gr, j * 5 + 2, none⟩ = some (.bool x.f2) ∧ w'.cell? ⟨gr, j * 5 + 3, none⟩ = some (.bool x.f3) ∧ w'.cell? ⟨gr, j * 5 + 4, none⟩ = some (.int .i64 x.f4)) (ds := [15]) #[false, false, false, false, false, false, false, false, false, false, false, false, false, false, false, false] (by kernel_rfl) rfl rfl ⟨dkgl0, dkgl1, dkgo1, dkgo2, dz0, dz1, dz2, dz3, dz4⟩ (fun hHeld => ?_); refine with_tabW sd_tab38 sd_bits38 (fun HT_ HW_ => ?_)
            refine pure_ (i := 0) (N := some 133) (v := ?_) (a' := ?_) #[true, false, false, false, false, false, false, false, false, false, false, false, false, false, false, false] rfl rfl (any_of HT_.out (by kernel_rfl)) (fun _ _ _ h => h) (Or.inl ⟨by rfl, ?_⟩) ?_ ?_
            rotate_left
            · intro w'
              go_simp
              with_reducible rfl
            rotate_left
            · simp only [Act.put, List.setIfInBounds_toArray, List.set_cons_zero, List.set_cons_succ, i64_w, i32_w]
              rfl
            refine take_ (i := 1) (N := some 134) (v := ?_) (a' := ?_) #[true, true, false, false, false, false, false, false, false, false, false, false, false, false, false, false] rfl rfl (take_ofW HT_.out HW_.out (by kernel_rfl)) (fun _ _ _ h => h) (Or.inl ⟨by rfl, ?_⟩) hHeld ?_ ?_
            rotate_left
            · rintro w' ⟨s0, s1, s2, s3, s4, s5, s6, s7, s8⟩
              go_simp
              with_reducible rfl
            rotate_left
            · simp only [Act.put, List.setIfInBounds_toArray, List.set_cons_zero, List.set_cons_succ, i64_w, i32_w]
              rfl
            refine pure_ (i := 2) (N := some 135) (v := ?_) (a' := ?_) #[true, true, true, false, false, false, false, false, false, false, false, false, false, false, false, false] rfl rfl (any_of HT_.out (by kernel_rfl)) (fun _ _ _ h => h) (Or.inl ⟨by rfl, ?_⟩) ?_ ?_
            rotate_left
            · intro w'
              go_simp
              with_reducible rfl
            rotate_left
            · simp only [Act.put, List.setIfInBounds_toArray, List.set_cons_zero, List.set_cons_succ, i64_w, i32_w]
              rfl
            refine take_ (i := 3) (N := some 136) (v := ?_) (a' := ?_) #[true, true, true, true, false, false, false, false, false, false, false, false, false, false, false, false] rfl rfl (take_ofW HT_.out HW_.out (by kernel_rfl)) (fun _ _ _ h => h) (Or.inl ⟨by rfl, ?_⟩) hHeld ?_ ?_
            rotate_left
            · rintro w' ⟨s0, s1, s2, s3, s4, s5, s6, s7, s8⟩
              go_simp
              with_reducible rfl
            rotate_left
            · simp only [Act.put, List.setIfInBounds_toArray, List.set_cons_zero, List.set_cons_succ, i64_w, i32_w]
              rfl
            refine pure_ (i := 4) (N := some 137) (v := ?_) (a' := ?_) #[true, true, true, true, true, false, false, false, false, false, false, false, false, false, false, false] rfl rfl (any_of HT_.out (by kernel_rfl)) (fun _ _ _ h => h) (Or.inl ⟨by rfl, ?_⟩) ?_ ?_
            rotate_left
            · intro w'
              go_simp
              with_reducible rfl
            rotate_left
            · simp only [Act.put, List.setIfInBounds_toArray, List.set_cons_zero, List.set_cons_succ, i64_w, i32_w]
              rfl
            refine take_ (i := 5) (N := some 138) (v := ?_) (a' := ?_) #[true, true, true, true, true, true, false, false, false, false, false, false, false, false, false, false] rfl rfl (take_ofW HT_.out HW_.out (by kernel_rfl)) (fun _ _ _ h => h) (Or.inl ⟨by rfl, ?_⟩) hHeld ?_ ?_
            rotate_left
            · rintro w' ⟨s0, s1, s2, s3, s4, s5, s6, s7, s8⟩
              go_simp
              with_reducible rfl
            rotate_left
            · simp only [Act.put, List.setIfInBounds_toArray, List.set_cons_zero, List.set_cons_succ, i64_w, i32_w]
              rfl
            refine pure_ (i := 6) (N := some 139) (v := ?_) (a' := ?_) #[true, true, true, true, true, true, true, false, false, false, false, false, false, false, false, false] rfl rfl (any_of HT_.out (by kernel_rfl)) (fun _ _ _ h => h) (Or.inl ⟨by rfl, ?_⟩) ?_ ?_
            rotate_left
            · intro w'
              go_simp
              with_reducible rfl
            rotate_left
            · simp only [Act.put, List.setIfInBounds_toArray, List.set_cons_zero, List.set_cons_succ, i64_w, i32_w]
              rfl
            refine pure_ (i := 7) (N := some 140) (v := ?_) (a' := ?_) #[true, true, true, true, true, true, true, true, false, false, false, false, false, false, false, false] rfl rfl (any_of HT_.out (by kernel_rfl)) (fun _ _ _ h => h) (Or.inl ⟨by rfl, ?_⟩) ?_ ?_
            rotate_left
            · intro w'
              go_simp
              with_reducible rfl
            rotate_left
            · simp only [Act.put, List.setIfInBounds_toArray, List.set_cons_zero, List.set_cons_succ, i64_w, i32_w]
              rfl
            refine take_ (i := 8) (N := some 141) (v := ?_) (a' := ?_) #[true, true, true, true, true, true, true, true, true, false, false, false, false, false, false, false] rfl rfl (take_ofW HT_.out HW_.out (by kernel_rfl)) (fun _ _ _ h => h) (Or.inl ⟨by rfl, ?_⟩) hHeld ?_ ?_
            rotate_left
            · rintro w' ⟨s0, s1, s2, s3, s4, s5, s6, s7, s8⟩
              go_simp
              with_reducible rfl
            rotate_left
            · simp only [Act.put, List.setIfInBounds_toArray, List.set_cons_zero, List.set_cons_succ, i64_w, i32_w]
              rfl
            refine pure_ (i := 9) (N := some 142) (v := ?_) (a' := ?_) #[true, true, true, true, true, true, true, true, true, true, false, false, false, false, false, false] rfl rfl (any_of HT_.out (by kernel_rfl)) (fun _ _ _ h => h) (Or.inl ⟨by rfl, ?_⟩) ?_ ?_
            rotate_left
            · intro w'
              go_simp
              with_reducible rfl
            rotate_left
            · simp only [Act.put, List.setIfInBounds_toArray, List.set_cons_zero, List.set_cons_succ, i64_w, i32_w]
              rfl
            refine pure_ (i := 10) (N := some 143) (v := ?_) (a' := ?_) #[true, true, true, true, true, true, true, true, true, true, true, false, false, false, false, false] rfl rfl (any_of HT_.out (by kernel_rfl)) (fun _ _ _ h => h) (Or.inl ⟨by rfl, ?_⟩) ?_ ?_
            rotate_left
            · intro w'
              go_simp
              with_reducible rfl
            rotate_left
            · simp only [Act.put, List.setIfInBounds_toArray, List.set_cons_zero, List.set_cons_succ, i64_w, i32_w]
              rfl
            refine take_ (i := 11) (N := some 144) (v := ?_) (a' := ?_) #[true, true, true, true, true, true, true, true, true, true, true, true, false, false, false, false] rfl rfl (take_ofW HT_.out HW_.out (by kernel_rfl)) (fun _ _ _ h => h) (Or.inl ⟨by rfl, ?_⟩) hHeld ?_ ?_
            rotate_left
            · rintro w' ⟨s0, s1, s2, s3, s4, s5, s6, s7, s8⟩
              go_simp
              with_reducible rfl
            rotate_left
            · simp only [Act.put, List.setIfInBounds_toArray, List.set_cons_zero, List.set_cons_succ, i64_w, i32_w]
              rfl
            refine one_ (i := 12) (N := some 145) #[true, true, true, true, true, true, true, true, true, true, true, true, true, false, false, false] rfl rfl (one_of HT_.out (by kernel_rfl)) (by decide) (fun K hK => ?_)
            refine goes_ Try.func113 (by kernel_rfl) rfl #[.agg #[.int .i64 n, .slice A l.length c], .slice Ad dd.length cd, .int .i64 (j : Int), .agg #[.int .i64 x.f0, .int .i64 x.f1, .bool x.f2, .bool x.f3, .int .i64 x.f4]] (by rfl) rfl rfl (by (try simp only [List.map_toArray, List.map_cons, List.map_nil]); first | done | rfl | (simp only [List.length_drop, List.length_take]; rfl)) ?_
            with_reducible refine (stold_of (j : Int) x (Kd.C_below HR.out SD.out.D.hB) hc SD.out.D.H2 HLM2.out HN.out.1 q0 HJN.out HML.out).mono ?_; rintro e w' ⟨rfl, hb⟩
            refine ⟨_, rfl, ?_⟩
            have S2 := Aside0.mk (SD.out.up hb)
            obtain ⟨zz, -, -, -, -, zf, -, -, -, -⟩ := sec_at S2.out.D.H1 (j : Int) q0 q1
            rw [Int.toNat_natCast] at zz zf
            refine hK.out _ _ ⟨pw_cell_below hb hHeld.1, pw_cell_below hb hHeld.2.1, pw_cell_below hb hHeld.2.2.1, pw_cell_below hb hHeld.2.2.2.1, pw_cell_below hb hHeld.2.2.2.2.1, pw_cell_below hb hHeld.2.2.2.2.2.1, pw_cell_below hb hHeld.2.2.2.2.2.2.1, pw_cell_below hb hHeld.2.2.2.2.2.2.2.1, pw_cell_below hb hHeld.2.2.2.2.2.2.2.2⟩ (fun hHeld => ?_)
            clear hK K
            refine norm_ (a' := ?_) ?_ ?_
            rotate_left
            · show Act.put _ (some 145) _ = _
              simp only [Act.put, List.setIfInBounds_toArray, List.set_cons_zero, List.set_cons_succ, i64_w, i32_w]
              rfl
            refine pure_ (i := 13) (N := some 146) (v := ?_) (a' := ?_) #[true, true, true, true, true, true, true, true, true, true, true, true, true, true, false, false] rfl rfl (any_of HT_.out (by kernel_rfl)) (fun _ _ _ h => h) (Or.inl ⟨by rfl, ?_⟩) ?_ ?_
            rotate_left
            · intro w'
              go_simp
              with_reducible rfl
            rotate_left
            · simp only [Act.put, List.setIfInBounds_toArray, List.set_cons_zero, List.set_cons_succ, i64_w, i32_w]
              rfl
            refine pure_ (i := 14) (N := some 147) (v := ?_) (a' := ?_) #[true, true, true, true, true, true, true, true, true, true, true, true, true, true, true, false] rfl rfl (any_of HT_.out (by kernel_rfl)) (fun _ _ _ h => h) (Or.inl ⟨by rfl, ?_⟩) ?_ ?_
            rotate_left
            · intro w'
              go_simp
              with_reducible rfl
            rotate_left
            · simp only [Act.put, List.setIfInBounds_toArray, List.set_cons_zero, List.set_cons_succ, i64_w, i32_w]
              rfl
            refine last_ (i := 15) (N := none) #[true, true, true, true, true, true, true, true, true, true, true, true, true, true, true, true] rfl rfl (one_of HT_.out (by kernel_rfl)) (by decide) (fun K hK => ?_)
            refine skip_ (w1 := ?_) (by rfl) rfl ?_ ?_
            rotate_left
            · go_simp
              rfl
            refine hK.out _ _ ?_
            clear hK K
            refine done_ (done_of HT_.out (by kernel_rfl)) ?_
            go_wp2_with fail
            go_meet
            obtain ⟨hR, hg⟩ := (SecSt.start S2.out.D.H1 q0 q1).put0 q0 q1 (u := toldC l md (j : Int) x) (show j * 5 = (j : Int).toNat * 5 + 0 by rw [Int.toNat_natCast, Nat.add_zero])
            rw [HX.out] at hR
            rw [HRS.out] at hR
            exact ⟨S2.out.sec hR hg⟩
          case rest =>
            go_wp2_with fail
            go_roundg gk
            case measure => omega
            case rel => exact ⟨j + 1, by go_num, ⟨by have := HJ.out; omega⟩, hcut⟩
      · have hlt' : decide ((j : Int) < (ss.length : Int)) = false := decide_eq_false (by omega)
        have hj : j = ss.length := by have := HJ.out; omega
        have hre : retoldTo l md ms j = retold l md ms := by rw [retold, HLM.out, hj]
        have SF0 := Aside0.mk (show SpSt w wr gl gz go ge gd [.int .i64 n, .slice A l.length c] [.bool true, .slice A1 ss.length c1, .slice A2 dd.length c2] [.bool true, .slice (some ⟨gr, 0, none⟩) ss.length cr, .slice Ad dd.length cd] [.int .i64 op, .int .i64 of, .int .i64 dir] [.int .i64 0, .bool false, .slice none 0 0, .slice none 0 0] (.slice (some ⟨gr, 0, none⟩) ss.length cr) (.slice Ad dd.length cd) (doSecs l ss dd op of dir) md by rw [← HDS.out, ← hre]; exact SL.out)
        clear hj hre SL
        have kgo0 : wr.cell? ⟨go, 0, none⟩ = some (.bool true) := (blk_cell SF0.out.D.hs 0).trans rfl
        have kgo1 : wr.cell? ⟨go, 1, none⟩ = some (.slice (some ⟨gr, 0, none⟩) ss.length cr) := (blk_cell SF0.out.D.hs 1).trans rfl
        have kgo2 : wr.cell? ⟨go, 2, none⟩ = some (.slice Ad dd.length cd) := (blk_cell SF0.out.D.hs 2).trans rfl
        have kd0 : wr.cell? ⟨gd, 0, none⟩ = some (.int .i64 0) := (blk_cell SF0.out.D.hd 0).trans rfl
        have kz0 := blk_frozen SF0.out.D.hd 0
        have kd1 : wr.cell? ⟨gd, 1, none⟩ = some (.bool false) := (blk_cell SF0.out.D.hd 1).trans rfl
        have kz1 := blk_frozen SF0.out.D.hd 1
        have kd2 : wr.cell? ⟨gd, 2, none⟩ = some (.slice none 0 0) := (blk_cell SF0.out.D.hd 2).trans rfl
        have kz2 := blk_frozen SF0.out.D.hd 2
        have kd3 : wr.cell? ⟨gd, 3, none⟩ = some (.slice none 0 0) := (blk_cell SF0.out.D.hd 3).trans rfl
        have kz3 := blk_frozen SF0.out.D.hd 3
        go_wp2_with fail
        have SF := SF0.out.D.fill (y0 := .int .i64 code) (y1 := .bool true) (y2 := (.slice (some ⟨gr, 0, none⟩) ss.length cr)) (y3 := (.slice Ad dd.length cd))
        exact bodyPost_ret (results_cell_row rfl _ _ gd 48 _ (0, 0) _ rfl SF.hd Try.underlying48 rfl (by kernel_rfl)) rfl ⟨_, _, by rw [HQ.out], SF.H1, by rw [HMD.out]; exact SF.H2, SF.hB⟩
end Go.Proofs.Ytpdnabhpkdchjaa.P
namespace Go.Proofs.Ytpdnabhpkdchjaa.P
open Go.RowKit Go.Proofs.YtpdnabhpkdchjaaW.PrintWords Go.Proofs.YtpdnabhpkdchjaaW.PrintLast Go.Proofs.YtpdnabhpkdchjaaW.PrintMore
attribute [local go_sem ↓] Go.wp_at_zero Go.wp_at_succ
set_option linter.unusedVariables false
set_option linter.unusedSimpArgs false
theorem doCode_ne (l : List S88) (ss : List S50) (dd : List Bool) (op of : Int) : doCode l ss dd op of ≠ 1 := by
  unfold doCode
  split
  · split <;> decide
  · split
    · split
      · decide
      · split <;> decide
    · decide
section
variable {w0 wr w w' w1 : World} {gl gs gd : Nat} {lv sv dv : List Value} {u1 u2 v v1 v2 v3 : Value} {s : S46} {ss : List S50} {dd : List Bool} {out : List S48}
theorem RnSt.midC {b : Bool} {x0 x1 x2 x3 : Value} (h : RnSt w0 wr gl gs lv sv u1 u2 s v out) (hb : Below wr.heap.size wr w) (hd : w.heap[gd]? = some (.cells #[x0, x1, x2, x3] 48 (0, 0))) (gde : wr.heap.size ≤ gd) (R1 : Kd.R k50 50 w wr.heap.size (fun _ => True) v2 ss) (R2 : Kd.R Kd.bool 4 w wr.heap.size (fun _ => True) v3 dd) :
    MdSt w0 wr (((w.setCell ⟨gd, 1, none⟩ (.bool b)).setCell ⟨gd, 2, none⟩ v2).setCell ⟨gd, 3, none⟩ v3) gl gs gd lv sv [x0, .bool b, v2, v3] v2 v3 ss dd v out := by
  have n1 := Kd.R_ne R1 hd (by decide)
  have n2 := Kd.R_ne R2 hd (by decide)
  exact h.mid (below_set (below_set (below_set hb gde) gde) gde) (blk_put (blk_put (blk_put hd 1 _ rfl) 2 _ rfl) 3 _ rfl) gde (R_off rfl (R_off rfl (R_off rfl R1 n1 _) n1 _) n1 _) (R_off rfl (R_off rfl (R_off rfl R2 n2 _) n2 _) n2 _)
theorem MdSt.setS {x0 x1 x2 : Value} (h : MdSt w0 wr w gl gs gd lv [x0, x1, x2] dv v2 v3 ss dd v out) (y : Value) :
    MdSt w0 wr (((w.setCell ⟨gs, 0, none⟩ y).setCell ⟨gs, 1, none⟩ v2).setCell ⟨gs, 2, none⟩ v3) gl gs gd lv [y, v2, v3] dv v2 v3 ss dd v out := by
  have n1 := Kd.R_ne h.R1 h.hs (by decide)
  have n2 := Kd.R_ne h.R2 h.hs (by decide)
  have nl := blk_ne h.hl h.hs (by decide)
  have nd := blk_ne h.hd h.hs (by decide)
  have hq : ∀ q, q ∈ 48 :: k48.E → q ≠ 46 := by decide
  have s0 := blk_put h.hs 0 y rfl
  have s1 := blk_put s0 1 v2 rfl
  have s2 := blk_put s1 2 v3 rfl
  exact {
    hl := blk_far (blk_far (blk_far h.hl nl _) nl _) nl _
    hs := s2
    hd := blk_far (blk_far (blk_far h.hd nd _) nd _) nd _
    R1 := R_off rfl (R_off rfl (R_off rfl h.R1 n1 _) n1 _) n1 _
    R2 := R_off rfl (R_off rfl (R_off rfl h.R2 n2 _) n2 _) n2 _
    HS := Kd.S_set (Kd.S_set (Kd.S_set h.HS h.hs hq 0 _) s0 hq 1 _) s1 hq 2 _
    hB := below_set (below_set (below_set h.hB h.gse) h.gse) h.gse
    gle := h.gle
    gse := h.gse
    gde := h.gde
    hw := h.hw }
theorem MdSt.fin2 (h : MdSt w0 wr w gl gs gd lv sv dv v2 v3 ss dd v out) {code : Int} {b : Bool} (HS1 : Kd.S k48 48 w1 w0.heap.size (fun _ => True) v1 (out ++ [⟨code, ⟨b, ss, dd⟩⟩])) (hB1 : Below w0.heap.size w0 w1) (hg : w.grownBy w1 v.ownBlock) :
    RnSt w0 w1 gl gs lv sv v2 v3 ⟨b, ss, dd⟩ v1 (out ++ [⟨code, ⟨b, ss, dd⟩⟩]) where
  hl := blk_grown h.hl hg (Kd.S_ne h.HS h.hl (by decide))
  hs := blk_grown h.hs hg (Kd.S_ne h.HS h.hs (by decide))
  V1 := Kd.V_grown (Kd.R_V (Kd.R_tight rfl h.R1)) hg (fun k hk => h.okp_ne (.inl hk))
  V2 := Kd.V_grown (Kd.R_V (Kd.R_tight rfl h.R2)) hg (fun k hk => h.okp_ne (.inr hk))
  HS := HS1
  hB := hB1
  gle := h.gle
  gse := h.gse
end
set_option maxHeartbeats 8000000 in
set_option maxRecDepth 100000 in
theorem srun_is (n : Int) (A : Option Addr) (c : Nat) (l : List S88) (A1 : Option Addr) (c1 : Nat) (es : List S56) (w : World) (hr : Kd.C k88 w A l.length l) (hc : l.length ≤ c) (hr1 : Kd.C k56 w A1 es.length es) (hc1 : es.length ≤ c1) :
    Calls Try.prog 28 #[.agg #[.int .i64 n, .slice A l.length c], .slice A1 es.length c1] w fun e w' => ∃ v0_ : Value, e = .returned (v0_) ∧ Kd.S k48 48 w' w.heap.size (fun _ => True) v0_ (run n l es) ∧ Below w.heap.size w w' := by
  have HR := Aside0.mk hr
  have HC := Aside0.mk hc
  have HR1 := Aside0.mk hr1
  have HC1 := Aside0.mk hc1
  clear hr hc hr1 hc1
  by_cases hl : layoutOk n l = 0
  · by_cases he : es.length ≤ 2000
    · skip
      have b0 : (layoutOk n l != 0) = false := bne_eq_false_iff_eq.mpr hl
      have b1 : decide ((es.length : Int) > 2000) = false := decide_eq_false (by omega)
      have HL := Aside0.mk hl
      have HE := Aside0.mk he
      have HN := Aside0.mk (lay_n hl)
      clear hl he
      go_enter Try.func28, Try.ntmps28
      go_upto_region 4 with (first | ((with_reducible refine gate_dst (N := 2) rfl ?_); refine box_event ?hg (N := 2) ?hd (cs := #[.int .i64 n, .slice A l.length c]) (t := 30) ?hr ?_; (case hd => rfl); (case hg => rfl); (case hr => first | (go_simp; done) | (go_simp; rfl)); intro gl el wl kl bl; have hcz0 := (blk_cell kl 0).trans (show _ = some (Value.int .i64 n) from rfl); have hcz1 := (blk_cell kl 1).trans (show _ = some (Value.slice A l.length c) from rfl); have KL := Aside0.mk kl; have BL := Aside0.mk bl; have GL := Aside0.mk (show w.heap.size ≤ gl by rw [el]; exact Nat.le_refl _); clear kl bl el) | (go_at_call 23; refine (slay_is (Kd.C_below HR.out BL.out) HC.out).mono ?_; rintro e w1 ⟨rfl, hb⟩; have KL := Aside0.mk (blk_below KL.out hb); have BL := Aside0.mk (below_step BL.out hb); clear hb; have hcy0 := (blk_cell KL.out 0).trans (show _ = some (Value.int .i64 n) from rfl); have hcy1 := (blk_cell KL.out 1).trans (show _ = some (Value.slice A l.length c) from rfl)) | (go_at_call 43; refine (sbegin_is (Kd.C_below HR.out BL.out) HC.out HL.out).mono ?_; rintro e w2 ⟨v1, v2, rfl, r1, r2, hb⟩; obtain ⟨a1, d1, rfl⟩ := Kd.R_slice r1; obtain ⟨a2, d2, rfl⟩ := Kd.R_slice r2; have R1 := Aside0.mk (Kd.R_lower r1 BL.out.size); have R2 := Aside0.mk (Kd.R_lower r2 BL.out.size); have KL := Aside0.mk (blk_below KL.out hb); have BL := Aside0.mk (below_step BL.out hb); clear hb r1 r2) | ((with_reducible refine gate_dst (N := 5) rfl ?_); refine box_event ?hg (N := 5) ?hd (cs := #[.bool false, .slice none 0 0, .slice none 0 0]) (t := 46) ?hr ?_; (case hd => rfl); (case hg => rfl); (case hr => first | (go_simp; done) | (go_simp; rfl)); intro gs es_ ws ks bs; have KS := Aside0.mk ks; have ES := Aside0.mk es_; have BS := Aside0.mk bs; have zs0 := blk_frozen ks 0; have zs1 := blk_frozen ks 1; have zs2 := blk_frozen ks 2; have ks0 := (blk_cell ks 0).trans (show _ = some (Value.bool false) from rfl); have ks1 := (blk_cell ks 1).trans (show _ = some (Value.slice none 0 0) from rfl); have ks2 := (blk_cell ks 2).trans (show _ = some (Value.slice none 0 0) from rfl); clear ks es_ bs))
      clear hcz0 hcz1 hcy0 hcy1
      have BX := Aside0.mk (below_set (j := 2) (v := .slice a2 (st0 n l).f2.length d2) (below_set (j := 1) (v := .slice a1 (st0 n l).f1.length d1) (below_set (j := 0) (v := .bool true) BS.out (Nat.le_of_eq ES.out.symm)) (Nat.le_of_eq ES.out.symm)) (Nat.le_of_eq ES.out.symm))
      have KX := Aside0.mk (blk_put (blk_put (blk_put KS.out 0 (.bool true) rfl) 1 (.slice a1 (st0 n l).f1.length d1) rfl) 2 (.slice a2 (st0 n l).f2.length d2) rfl)
      have ST := Aside0.mk (show RnSt w (((ws.setCell ⟨gs, 0, none⟩ (.bool true)).setCell ⟨gs, 1, none⟩ (.slice a1 (st0 n l).f1.length d1)).setCell ⟨gs, 2, none⟩ (.slice a2 (st0 n l).f2.length d2)) gl gs [.int .i64 n, .slice A l.length c] [.bool true, .slice a1 (st0 n l).f1.length d1, .slice a2 (st0 n l).f2.length d2] (.slice a1 (st0 n l).f1.length d1) (.slice a2 (st0 n l).f2.length d2) (st0 n l) (.slice none 0 0) [] from ⟨blk_below KL.out BX.out, KX.out, Kd.V_below (Kd.R_V (Kd.R_tight rfl R1.out)) BX.out, Kd.V_below (Kd.R_V (Kd.R_tight rfl R2.out)) BX.out, Kd.S_nil _ _ _ _ _, below_step BL.out BX.out, GL.out, by rw [ES.out]; exact BL.out.size⟩)
      clear KL BL R1 R2 KS ES BS zs0 zs1 zs2 ks0 ks1 ks2 BX KX
      generalize (((ws.setCell ⟨gs, 0, none⟩ (.bool true)).setCell ⟨gs, 1, none⟩ (.slice a1 (st0 n l).f1.length d1)).setCell ⟨gs, 2, none⟩ (.slice a2 (st0 n l).f2.length d2)) = wa at ST ⊢
      go_wp2_with fail
      go_loopg [6, 22] es.length (fun kq vo v22 w' => ∃ j : Nat, v22 = .int .i64 j ∧ Aside0 (j + kq = es.length) ∧ ∃ u1 u2 : Value, Aside0 (RnSt w w' gl gs [.int .i64 n, .slice A l.length c] [.bool true, u1, u2] u1 u2 (stAt n l es j) vo (runTo n l es j)))
      case atStart => exact ⟨0, rfl, ⟨by omega⟩, _, _, ⟨by rw [stAt_zero]; exact ST.out⟩⟩
      case round =>
        clear ST
        obtain ⟨j, rfl, HJ, u1, u2, ST⟩ := hrel
        by_cases hlt : j < es.length
        · cases gk with
          | zero => exact absurd HJ.out (by omega)
          | succ gk =>
            have hlt' : decide ((j : Int) < (es.length : Int)) = true := decide_eq_true (by omega)
            have q0 : (0 : Int) ≤ (j : Int) := by omega
            have q1 : (j : Int) < (es.length : Int) := by omega
            obtain ⟨a1, d1, e1⟩ := Kd.V_slice ST.out.V1
            obtain ⟨a2, d2, e2⟩ := Kd.V_slice ST.out.V2
            subst e1 e2
            obtain ⟨ad, e, x0, x1, x2⟩ := at_T56 HR1.out (j : Int) q0 q1
            subst e
            replace x0 := pw_cell_below ST.out.hB x0
            replace x1 := pw_cell_below ST.out.hB x1
            replace x2 := pw_cell_below ST.out.hB x2
            rw [Int.toNat_natCast] at x0 x1 x2
            have HSU := Aside0.mk (stAt_succ n l es j hlt)
            have HRU := Aside0.mk (runTo_succ n l es j)
            have HLT := Aside0.mk (stAt_len n l es j)
            have HSO := Aside0.mk (stAt_ok HL.out es j)
            generalize hx : rd_T56 es (j : Int) = x at x0 x1 x2 HSU HRU
            clear hx
            generalize hst : stAt n l es j = s at ST HSU HRU HLT HSO ⊢
            clear hst
            go_upto_region 8 with ((with_reducible refine gate_dst (N := 8) rfl ?_); refine box_event ?hg (N := 8) ?hd (cs := #[.int .i64 0, .int .i64 0, .int .i64 0]) (t := 56) ?hr ?_; (case hd => rfl); (case hg => rfl); (case hr => first | (go_simp; done) | (go_simp; rfl)); intro ge ee we ke be; have KE := Aside0.mk ke; have EE := Aside0.mk ee; have BE := Aside0.mk be; have z0 := blk_frozen ke 0; have z1 := blk_frozen ke 1; have z2 := blk_frozen ke 2; have c0_ := (blk_cell ke 0).trans (show _ = some (Value.int .i64 0) from rfl); have c1_ := (blk_cell ke 1).trans (show _ = some (Value.int .i64 0) from rfl); have c2_ := (blk_cell ke 2).trans (show _ = some (Value.int .i64 0) from rfl); clear ke ee be)
            have KX := Aside0.mk (blk_put (blk_put (blk_put KE.out 0 (.int .i64 x.f0) rfl) 1 (.int .i64 x.f1) rfl) 2 (.int .i64 x.f2) rfl)
            have BX := Aside0.mk (below_set (j := 2) (v := .int .i64 x.f2) (below_set (j := 1) (v := .int .i64 x.f1) (below_set (j := 0) (v := .int .i64 x.f0) BE.out (Nat.le_of_eq EE.out.symm)) (Nat.le_of_eq EE.out.symm)) (Nat.le_of_eq EE.out.symm))
            clear KE BE EE z0 z1 z2 c0_ c1_ c2_ x0 x1 x2
            generalize (((we.setCell ⟨ge, 0, none⟩ (.int .i64 x.f0)).setCell ⟨ge, 1, none⟩ (.int .i64 x.f1)).setCell ⟨ge, 2, none⟩ (.int .i64 x.f2)) = w8 at KX BX ⊢
            have SX := Aside0.mk (ST.out.up BX.out)
            have kl0 : w8.cell? ⟨gl, 0, none⟩ = some (.int .i64 n) := (blk_cell (SX.out).hl 0).trans rfl
            have kl1 : w8.cell? ⟨gl, 1, none⟩ = some (.slice A l.length c) := (blk_cell (SX.out).hl 1).trans rfl
            have ks0 : w8.cell? ⟨gs, 0, none⟩ = some (.bool true) := (blk_cell (SX.out).hs 0).trans rfl
            have ks1 : w8.cell? ⟨gs, 1, none⟩ = some (.slice a1 s.f1.length d1) := (blk_cell (SX.out).hs 1).trans rfl
            have ks2 : w8.cell? ⟨gs, 2, none⟩ = some (.slice a2 s.f2.length d2) := (blk_cell (SX.out).hs 2).trans rfl
            have ke0 : w8.cell? ⟨ge, 0, none⟩ = some (.int .i64 x.f0) := (blk_cell KX.out 0).trans rfl
            have ke1 : w8.cell? ⟨ge, 1, none⟩ = some (.int .i64 x.f1) := (blk_cell KX.out 1).trans rfl
            have ke2 : w8.cell? ⟨ge, 2, none⟩ = some (.int .i64 x.f2) := (blk_cell KX.out 2).trans rfl
            have HSO2 := Aside0.mk (show stateOk n l true s.f1 s.f2 = true by have := HSO.out; rw [HLT.out.2.2] at this; exact this)
            cases hok : eventOk n l x.f0 x.f1 x.f2 with
            | false =>
              have HO := Aside0.mk hok
              clear hok
              have HST := Aside0.mk (show runStep n l s x = ⟨1, ⟨true, s.f1, s.f2⟩⟩ by unfold runStep; rw [HO.out]; rfl)
              go_upto_region 9 with (first | (go_at_call 69; refine (sdo_badE n A c l true a1 d1 s.f1 a2 d2 s.f2 x.f0 x.f1 x.f2 _ (Kd.C_below HR.out SX.out.hB) HC.out (Kd.V_reads' SX.out.V1).2.2 (Kd.V_reads' SX.out.V1).2.1 (Kd.V_reads' SX.out.V2).2.2 (Kd.V_reads' SX.out.V2).2.1 HSO2.out HO.out).mono ?_; rintro e wd ⟨rfl, hb⟩; have B9 := Aside0.mk (below_step BX.out hb); clear hb) | ((with_reducible refine gate_dst (N := 9) rfl ?_); refine box_event ?hg (N := 9) ?hd (cs := #[.int .i64 0, .bool false, .slice none 0 0, .slice none 0 0]) (t := 48) ?hr ?_; (case hd => rfl); (case hg => rfl); (case hr => first | (go_simp; done) | (go_simp; rfl)); intro gd ed wb kd bd; have KD := Aside0.mk kd; have ED := Aside0.mk ed; have BD := Aside0.mk bd; have zd0 := blk_frozen kd 0; have zd1 := blk_frozen kd 1; have zd2 := blk_frozen kd 2; have zd3 := blk_frozen kd 3; have kd0 := (blk_cell kd 0).trans (show _ = some (Value.int .i64 0) from rfl); have kd1 := (blk_cell kd 1).trans (show _ = some (Value.bool false) from rfl); have kd2 := (blk_cell kd 2).trans (show _ = some (Value.slice none 0 0) from rfl); have kd3 := (blk_cell kd 3).trans (show _ = some (Value.slice none 0 0) from rfl); clear kd ed bd))
              have KF := Aside0.mk (blk_put (blk_put (blk_put (blk_put KD.out 0 (.int .i64 1) rfl) 1 (.bool false) rfl) 2 (.slice none 0 0) rfl) 3 (.slice none 0 0) rfl)
              have GD := Aside0.mk (show wr.heap.size ≤ gd by rw [ED.out]; exact B9.out.size)
              have BF := Aside0.mk (below_set (j := 3) (v := .slice none 0 0) (below_set (j := 2) (v := .slice none 0 0) (below_set (j := 1) (v := .bool false) (below_set (j := 0) (v := .int .i64 1) (below_step B9.out BD.out) GD.out) GD.out) GD.out) GD.out)
              clear kl0 kl1 ks0 ks1 ks2 ke0 ke1 ke2 kd0 kd1 kd2 kd3 zd0 zd1 zd2 zd3 KD BD B9 ED SX
              generalize ((((wb.setCell ⟨gd, 0, none⟩ (.int .i64 1)).setCell ⟨gd, 1, none⟩ (.bool false)).setCell ⟨gd, 2, none⟩ (.slice none 0 0)).setCell ⟨gd, 3, none⟩ (.slice none 0 0)) = w9 at KF BF ⊢
              have S9 := Aside0.mk (ST.out.up BF.out)
              have kd0 : w9.cell? ⟨gd, 0, none⟩ = some (.int .i64 1) := (blk_cell KF.out 0).trans rfl
              have kd1 : w9.cell? ⟨gd, 1, none⟩ = some (.bool false) := (blk_cell KF.out 1).trans rfl
              have kd2 : w9.cell? ⟨gd, 2, none⟩ = some (.slice none 0 0) := (blk_cell KF.out 2).trans rfl
              have kd3 : w9.cell? ⟨gd, 3, none⟩ = some (.slice none 0 0) := (blk_cell KF.out 3).trans rfl
              have ks0 : w9.cell? ⟨gs, 0, none⟩ = some (.bool true) := (blk_cell S9.out.hs 0).trans rfl
              have ks1 : w9.cell? ⟨gs, 1, none⟩ = some (.slice a1 s.f1.length d1) := (blk_cell S9.out.hs 1).trans rfl
              have ks2 : w9.cell? ⟨gs, 2, none⟩ = some (.slice a2 s.f2.length d2) := (blk_cell S9.out.hs 2).trans rfl
              have hs1 : s.f1.length ≤ 1048576 := by rw [HLT.out.1]; have := HN.out; omega
              have hs2 : s.f2.length ≤ 1048576 := by rw [HLT.out.2.1]; have := HN.out; omega
              have HS1_ := Aside0.mk hs1
              have HS2_ := Aside0.mk hs2
              clear hs1 hs2
              go_upto_region 11 with (go_at_call 93; refine (copy_is (Kd.V_reads' S9.out.V1).2.2 (Kd.V_reads' S9.out.V1).2.1 (Kd.V_reads' S9.out.V2).2.2 (Kd.V_reads' S9.out.V2).2.1 HS1_.out HS2_.out).mono ?_; rintro e wf ⟨v2, v3, rfl, r1, r2, hb⟩; obtain ⟨b2, f2, rfl⟩ := Kd.R_slice r1; obtain ⟨b3, f3, rfl⟩ := Kd.R_slice r2; have NR1 := Aside0.mk (Kd.R_lower r1 BF.out.size); have NR2 := Aside0.mk (Kd.R_lower r2 BF.out.size); have KG := Aside0.mk (blk_below KF.out hb); have BG := Aside0.mk (below_step BF.out hb); clear r1 r2 hb; have kd0 : wf.cell? ⟨gd, 0, none⟩ = some (.int .i64 1) := (blk_cell KG.out 0).trans rfl; have kd1 : wf.cell? ⟨gd, 1, none⟩ = some (.bool false) := (blk_cell KG.out 1).trans rfl; have kd2 : wf.cell? ⟨gd, 2, none⟩ = some (.slice none 0 0) := (blk_cell KG.out 2).trans rfl; have kd3 : wf.cell? ⟨gd, 3, none⟩ = some (.slice none 0 0) := (blk_cell KG.out 3).trans rfl; have zd0 := blk_frozen KG.out 0; have zd1 := blk_frozen KG.out 1; have zd2 := blk_frozen KG.out 2; have zd3 := blk_frozen KG.out 3)
              have HM3 := Aside0.mk (ST.out.midC (b := true) BG.out KG.out GD.out NR1.out NR2.out)
              clear kd0 kd1 kd2 kd3 zd0 zd1 zd2 zd3 ks0 ks1 ks2 KG BG NR1 NR2 S9 KF BF
              generalize (((wf.setCell ⟨gd, 1, none⟩ (.bool true)).setCell ⟨gd, 2, none⟩ (.slice b2 s.f1.length f2)).setCell ⟨gd, 3, none⟩ (.slice b3 s.f2.length f3)) = wg at HM3 ⊢
              have kd0 : wg.cell? ⟨gd, 0, none⟩ = some (.int .i64 (1)) := (blk_cell HM3.out.hd 0).trans rfl
              have kd1 : wg.cell? ⟨gd, 1, none⟩ = some (.bool true) := (blk_cell HM3.out.hd 1).trans rfl
              have kd2 : wg.cell? ⟨gd, 2, none⟩ = some (.slice b2 s.f1.length f2) := (blk_cell HM3.out.hd 2).trans rfl
              have kd3 : wg.cell? ⟨gd, 3, none⟩ = some (.slice b3 s.f2.length f3) := (blk_cell HM3.out.hd 3).trans rfl
              have kt0 : wg.cell? ⟨gs, 0, none⟩ = some (.bool true) := (blk_cell HM3.out.hs 0).trans rfl
              have kt1 : wg.cell? ⟨gs, 1, none⟩ = some (.slice a1 s.f1.length d1) := (blk_cell HM3.out.hs 1).trans rfl
              have kt2 : wg.cell? ⟨gs, 2, none⟩ = some (.slice a2 s.f2.length d2) := (blk_cell HM3.out.hs 2).trans rfl
              have zt0 := blk_frozen HM3.out.hs 0
              have zt1 := blk_frozen HM3.out.hs 1
              have zt2 := blk_frozen HM3.out.hs 2
              go_upto_region 12 with fail
              have HS4 := Aside0.mk (HM3.out.setS (.bool true))
              clear kd0 kd1 kd2 kd3 kt0 kt1 kt2 zt0 zt1 zt2
              generalize (((wg.setCell ⟨gs, 0, none⟩ (.bool true)).setCell ⟨gs, 1, none⟩ (.slice b2 s.f1.length f2)).setCell ⟨gs, 2, none⟩ (.slice b3 s.f2.length f3)) = wh at HS4 ⊢
              have kd0 : wh.cell? ⟨gd, 0, none⟩ = some (.int .i64 (1)) := (blk_cell HS4.out.hd 0).trans rfl
              have kd1 : wh.cell? ⟨gd, 1, none⟩ = some (.bool true) := (blk_cell HS4.out.hd 1).trans rfl
              have kd2 : wh.cell? ⟨gd, 2, none⟩ = some (.slice b2 s.f1.length f2) := (blk_cell HS4.out.hd 2).trans rfl
              have kd3 : wh.cell? ⟨gd, 3, none⟩ = some (.slice b3 s.f2.length f3) := (blk_cell HS4.out.hd 3).trans rfl
              go_wp2_with (at_builtin; refine Kd.S_append k48 (w0 := w) w.heap.size rfl (.tmp 38) (.tmp 40) 38 48 (.agg #[.int .i64 0, .bool false, .slice none 0 0, .slice none 0 0]) 64 rfl Try.underlying38 info48 rfl (by decide) (by decide) u6 (runTo n l es j) ⟨1, ⟨true, s.f1, s.f2⟩⟩ [.int .i64 (1), .bool true, (.slice b2 s.f1.length f2), (.slice b3 s.f2.length f3)] (fun _ => True) (okp (.slice b2 s.f1.length f2) (.slice b3 s.f2.length f3)) rfl rfl (HS4.out.elem (1) true) (fun k hk => ⟨trivial, HS4.out.okp_ne hk⟩) (fun _ _ => trivial) HS4.out.rest HS4.out.hB HS4.out.hB.size (by rw [runTo_length]; have := HE.out; omega) ?_; intro vn wn hsn hbn hgn _; have SN := Aside0.mk (HS4.out.fin2 hsn hbn hgn); clear hsn hbn hgn)
              go_roundg gk
              case measure => omega
              case rel => exact ⟨j + 1, congrArg (Value.int .i64) (wrap_succ (by have := HE.out; omega)), ⟨by have := HJ.out; omega⟩, _, _, ⟨by rw [HSU.out, HRU.out, HST.out]; exact SN.out⟩⟩
            | true =>
              have HO := Aside0.mk hok
              clear hok
              have HST := Aside0.mk (show runStep n l s x = ⟨doCode l s.f1 s.f2 x.f0 x.f1, ⟨true, doSecs l s.f1 s.f2 x.f0 x.f1 x.f2, doDead l s.f1 s.f2 x.f0 x.f1⟩⟩ by unfold runStep; rw [if_pos HO.out])
              have hc1 : (doCode l s.f1 s.f2 x.f0 x.f1 == 1) = false := beq_eq_false_iff_ne.mpr (doCode_ne _ _ _ _ _)
              generalize hcd : doCode l s.f1 s.f2 x.f0 x.f1 = code at hc1 HST
              have HCD := Aside0.mk hcd
              clear hcd
              go_upto_region 9 with (first | (go_at_call 69; refine (sdo_is n A c l true a1 d1 s.f1 a2 d2 s.f2 x.f0 x.f1 x.f2 _ (Kd.C_below HR.out SX.out.hB) HC.out (Kd.V_reads' SX.out.V1).2.2 (Kd.V_reads' SX.out.V1).2.1 (Kd.V_reads' SX.out.V2).2.2 (Kd.V_reads' SX.out.V2).2.1 HSO2.out HO.out).mono ?_; rw [HCD.out]; rintro e wd ⟨v2, v3, rfl, r1, r2, hb⟩; obtain ⟨b4, f4, rfl⟩ := Kd.R_slice r1; obtain ⟨b5, f5, rfl⟩ := Kd.R_slice r2; have NR1 := Aside0.mk (Kd.R_lower r1 BX.out.size); have NR2 := Aside0.mk (Kd.R_lower r2 BX.out.size); have B9 := Aside0.mk (below_step BX.out hb); clear hb r1 r2) | ((with_reducible refine gate_dst (N := 9) rfl ?_); refine box_event ?hg (N := 9) ?hd (cs := #[.int .i64 0, .bool false, .slice none 0 0, .slice none 0 0]) (t := 48) ?hr ?_; (case hd => rfl); (case hg => rfl); (case hr => first | (go_simp; done) | (go_simp; rfl)); intro gd ed wb kd bd; have KD := Aside0.mk kd; have ED := Aside0.mk ed; have BD := Aside0.mk bd; have zd0 := blk_frozen kd 0; have zd1 := blk_frozen kd 1; have zd2 := blk_frozen kd 2; have zd3 := blk_frozen kd 3; have kd0 := (blk_cell kd 0).trans (show _ = some (Value.int .i64 0) from rfl); have kd1 := (blk_cell kd 1).trans (show _ = some (Value.bool false) from rfl); have kd2 := (blk_cell kd 2).trans (show _ = some (Value.slice none 0 0) from rfl); have kd3 := (blk_cell kd 3).trans (show _ = some (Value.slice none 0 0) from rfl); clear kd ed bd))
              have GD := Aside0.mk (show wr.heap.size ≤ gd by rw [ED.out]; exact B9.out.size)
              have HM3 := Aside0.mk (ST.out.midB (code := code) (b := true) (below_step B9.out BD.out) KD.out GD.out (R_up NR1.out BD.out) (R_up NR2.out BD.out)).1
              clear kl0 kl1 ks0 ks1 ks2 ke0 ke1 ke2 kd0 kd1 kd2 kd3 zd0 zd1 zd2 zd3 KD BD B9 ED SX NR1 NR2
              generalize ((((wb.setCell ⟨gd, 0, none⟩ (.int .i64 code)).setCell ⟨gd, 1, none⟩ (.bool true)).setCell ⟨gd, 2, none⟩ (.slice b4 (doSecs l s.f1 s.f2 x.f0 x.f1 x.f2).length f4)).setCell ⟨gd, 3, none⟩ (.slice b5 (doDead l s.f1 s.f2 x.f0 x.f1).length f5)) = wg at HM3 ⊢
              have kd0 : wg.cell? ⟨gd, 0, none⟩ = some (.int .i64 code) := (blk_cell HM3.out.hd 0).trans rfl
              have kd1 : wg.cell? ⟨gd, 1, none⟩ = some (.bool true) := (blk_cell HM3.out.hd 1).trans rfl
              have kd2 : wg.cell? ⟨gd, 2, none⟩ = some (.slice b4 (doSecs l s.f1 s.f2 x.f0 x.f1 x.f2).length f4) := (blk_cell HM3.out.hd 2).trans rfl
              have kd3 : wg.cell? ⟨gd, 3, none⟩ = some (.slice b5 (doDead l s.f1 s.f2 x.f0 x.f1).length f5) := (blk_cell HM3.out.hd 3).trans rfl
              go_upto_region 11 with fail
              clear kd0 kd1 kd2 kd3
              have kd0 : wg.cell? ⟨gd, 0, none⟩ = some (.int .i64 (code)) := (blk_cell HM3.out.hd 0).trans rfl
              have kd1 : wg.cell? ⟨gd, 1, none⟩ = some (.bool true) := (blk_cell HM3.out.hd 1).trans rfl
              have kd2 : wg.cell? ⟨gd, 2, none⟩ = some (.slice b4 (doSecs l s.f1 s.f2 x.f0 x.f1 x.f2).length f4) := (blk_cell HM3.out.hd 2).trans rfl
              have kd3 : wg.cell? ⟨gd, 3, none⟩ = some (.slice b5 (doDead l s.f1 s.f2 x.f0 x.f1).length f5) := (blk_cell HM3.out.hd 3).trans rfl
              have kt0 : wg.cell? ⟨gs, 0, none⟩ = some (.bool true) := (blk_cell HM3.out.hs 0).trans rfl
              have kt1 : wg.cell? ⟨gs, 1, none⟩ = some (.slice a1 s.f1.length d1) := (blk_cell HM3.out.hs 1).trans rfl
              have kt2 : wg.cell? ⟨gs, 2, none⟩ = some (.slice a2 s.f2.length d2) := (blk_cell HM3.out.hs 2).trans rfl
              have zt0 := blk_frozen HM3.out.hs 0
              have zt1 := blk_frozen HM3.out.hs 1
              have zt2 := blk_frozen HM3.out.hs 2
              go_upto_region 12 with fail
              have HS4 := Aside0.mk (HM3.out.setS (.bool true))
              clear kd0 kd1 kd2 kd3 kt0 kt1 kt2 zt0 zt1 zt2
              generalize (((wg.setCell ⟨gs, 0, none⟩ (.bool true)).setCell ⟨gs, 1, none⟩ (.slice b4 (doSecs l s.f1 s.f2 x.f0 x.f1 x.f2).length f4)).setCell ⟨gs, 2, none⟩ (.slice b5 (doDead l s.f1 s.f2 x.f0 x.f1).length f5)) = wh at HS4 ⊢
              have kd0 : wh.cell? ⟨gd, 0, none⟩ = some (.int .i64 (code)) := (blk_cell HS4.out.hd 0).trans rfl
              have kd1 : wh.cell? ⟨gd, 1, none⟩ = some (.bool true) := (blk_cell HS4.out.hd 1).trans rfl
              have kd2 : wh.cell? ⟨gd, 2, none⟩ = some (.slice b4 (doSecs l s.f1 s.f2 x.f0 x.f1 x.f2).length f4) := (blk_cell HS4.out.hd 2).trans rfl
              have kd3 : wh.cell? ⟨gd, 3, none⟩ = some (.slice b5 (doDead l s.f1 s.f2 x.f0 x.f1).length f5) := (blk_cell HS4.out.hd 3).trans rfl
              go_wp2_with (at_builtin; refine Kd.S_append k48 (w0 := w) w.heap.size rfl (.tmp 38) (.tmp 40) 38 48 (.agg #[.int .i64 0, .bool false, .slice none 0 0, .slice none 0 0]) 64 rfl Try.underlying38 info48 rfl (by decide) (by decide) u6 (runTo n l es j) ⟨code, ⟨true, doSecs l s.f1 s.f2 x.f0 x.f1 x.f2, doDead l s.f1 s.f2 x.f0 x.f1⟩⟩ [.int .i64 (code), .bool true, (.slice b4 (doSecs l s.f1 s.f2 x.f0 x.f1 x.f2).length f4), (.slice b5 (doDead l s.f1 s.f2 x.f0 x.f1).length f5)] (fun _ => True) (okp (.slice b4 (doSecs l s.f1 s.f2 x.f0 x.f1 x.f2).length f4) (.slice b5 (doDead l s.f1 s.f2 x.f0 x.f1).length f5)) rfl rfl (HS4.out.elem (code) true) (fun k hk => ⟨trivial, HS4.out.okp_ne hk⟩) (fun _ _ => trivial) HS4.out.rest HS4.out.hB HS4.out.hB.size (by rw [runTo_length]; have := HE.out; omega) ?_; intro vn wn hsn hbn hgn _; have SN := Aside0.mk (HS4.out.fin2 hsn hbn hgn); clear hsn hbn hgn)
              go_roundg gk
              case measure => omega
              case rel => exact ⟨j + 1, congrArg (Value.int .i64) (wrap_succ (by have := HE.out; omega)), ⟨by have := HJ.out; omega⟩, _, _, ⟨by rw [HSU.out, HRU.out, HST.out]; exact SN.out⟩⟩
        · have hlt' : decide ((j : Int) < (es.length : Int)) = false := decide_eq_false (by omega)
          have hj : j = es.length := by have := HJ.out; omega
          have HRN := Aside0.mk (show runTo n l es j = run n l es by rw [run, if_pos ⟨HL.out, HE.out⟩, hj])
          clear hj
          go_wp2_with fail
          go_ret
          exact ⟨_, rfl, HRN.out ▸ ST.out.HS, ST.out.hB⟩
    · skip
      have b0 : (layoutOk n l != 0) = false := bne_eq_false_iff_eq.mpr hl
      have b1 : decide ((es.length : Int) > 2000) = true := decide_eq_true (by omega)
      have HV := Aside0.mk (show ([] : List S48) = run n l es by rw [run, if_neg (fun h => he h.2)])
      clear hl he
      go_enter Try.func28, Try.ntmps28
      go_wp2_with (first | ((with_reducible refine gate_dst (N := 2) rfl ?_); refine box_event ?hg (N := 2) ?hd (cs := #[.int .i64 n, .slice A l.length c]) (t := 30) ?hr ?_; (case hd => rfl); (case hg => rfl); (case hr => first | (go_simp; done) | (go_simp; rfl)); intro gl el wl kl bl; have hcz0 := (blk_cell kl 0).trans (show _ = some (Value.int .i64 n) from rfl); have hcz1 := (blk_cell kl 1).trans (show _ = some (Value.slice A l.length c) from rfl); have KL := Aside0.mk kl; have BL := Aside0.mk bl; have GL := Aside0.mk (show w.heap.size ≤ gl by rw [el]; exact Nat.le_refl _); clear kl bl el) | (go_at_call 23; refine (slay_is (Kd.C_below HR.out BL.out) HC.out).mono ?_; rintro e w1 ⟨rfl, hb⟩; have KL := Aside0.mk (blk_below KL.out hb); have BL := Aside0.mk (below_step BL.out hb); clear hb; have hcy0 := (blk_cell KL.out 0).trans (show _ = some (Value.int .i64 n) from rfl); have hcy1 := (blk_cell KL.out 1).trans (show _ = some (Value.slice A l.length c) from rfl)))
      go_ret
      exact ⟨_, rfl, HV.out ▸ Kd.S_nil _ _ _ _ _, BL.out⟩
  · skip
    have b0 : (layoutOk n l != 0) = true := bne_iff_ne.mpr hl
    have HV := Aside0.mk (show ([] : List S48) = run n l es by rw [run, if_neg (fun h => hl h.1)])
    clear hl
    go_enter Try.func28, Try.ntmps28
    go_wp2_with (first | ((with_reducible refine gate_dst (N := 2) rfl ?_); refine box_event ?hg (N := 2) ?hd (cs := #[.int .i64 n, .slice A l.length c]) (t := 30) ?hr ?_; (case hd => rfl); (case hg => rfl); (case hr => first | (go_simp; done) | (go_simp; rfl)); intro gl el wl kl bl; have hcz0 := (blk_cell kl 0).trans (show _ = some (Value.int .i64 n) from rfl); have hcz1 := (blk_cell kl 1).trans (show _ = some (Value.slice A l.length c) from rfl); have KL := Aside0.mk kl; have BL := Aside0.mk bl; have GL := Aside0.mk (show w.heap.size ≤ gl by rw [el]; exact Nat.le_refl _); clear kl bl el) | (go_at_call 23; refine (slay_is (Kd.C_below HR.out BL.out) HC.out).mono ?_; rintro e w1 ⟨rfl, hb⟩; have KL := Aside0.mk (blk_below KL.out hb); have BL := Aside0.mk (below_step BL.out hb); clear hb; have hcy0 := (blk_cell KL.out 0).trans (show _ = some (Value.int .i64 n) from rfl); have hcy1 := (blk_cell KL.out 1).trans (show _ = some (Value.slice A l.length c) from rfl)))
    go_ret
    exact ⟨_, rfl, HV.out ▸ Kd.S_nil _ _ _ _ _, BL.out⟩
end Go.Proofs.Ytpdnabhpkdchjaa.P
namespace Go.Proofs.Ytpdnabhpkdchjaa.WalkFnExactRun
open Go.RowKit Go.Proofs.YtpdnabhpkdchjaaW.PrintWords Go.Proofs.YtpdnabhpkdchjaaW.PrintLast Go.Proofs.YtpdnabhpkdchjaaW.PrintMore P
attribute [local go_sem ↓] Go.wp_at_zero Go.wp_at_succ
set_option linter.unusedVariables false
set_option linter.unusedSimpArgs false
theorem run_bounds (n : Int) (l : List S88) (es : List S56) : (run n l es).length ≤ 1000000000 ∧ totD (run n l es) ≤ 3000000000 ∧ ∀ x ∈ run n l es, x.f1.f1.length ≤ 1048576 ∧ x.f1.f2.length ≤ 1048576 := by
  by_cases h : layoutOk n l = 0 ∧ es.length ≤ 2000
  · have hn := lay_n h.1
    rw [run, if_pos h]
    have hs : ∀ k, (runStep n l (stAt n l es k) (rd_T56 es (k : Int))).f1.f1.length ≤ 60 ∧ (runStep n l (stAt n l es k) (rd_T56 es (k : Int))).f1.f2.length ≤ 120 := by
      intro k
      have h1 := runStep_len n l (stAt n l es k) (rd_T56 es (k : Int))
      have h2 := stAt_len n l es k
      rw [h1.1, h1.2.1, h2.1, h2.2.1]
      omega
    have ht : ∀ m : Nat, totD (runTo n l es m) ≤ m * 422 := by
      intro m
      induction m with
      | zero => simp [runTo, totD]
      | succ m ih =>
        rw [runTo_succ, totD_append]
        have := hs m
        simp only [totD, wgtD]
        omega
    refine ⟨by rw [runTo_length]; omega, ?_, ?_⟩
    · have := ht es.length; omega
    · intro x hx
      simp only [runTo, List.mem_map] at hx
      obtain ⟨k, _, rfl⟩ := hx
      have := hs k
      omega
  · rw [run, if_neg h]; simp [totD]
set_option maxHeartbeats 16000000 in
set_option maxRecDepth 100000 in
theorem too1 (n : Int) (A : Option Addr) (c : Nat) (l : List S160) (A1 : Option Addr) (c1 : Nat) (es : List S54) (w : World) (hr : Kd.C k160 w A l.length l) (hc : l.length ≤ c) (hr1 : Kd.C k54 w A1 es.length es) (hc1 : es.length ≤ c1) (m1 : Int) (h1 : laws_szLayout.f n l 1048576 = some m1) (hm : m1 < 0) :
    Calls Try.prog 19 #[.agg #[.int .i64 n, .slice A l.length c], .slice A1 es.length c1] w fun e w' => e = .returned (.bool true) ∧ Below w.heap.size w w' := by
  have HR := Aside0.mk hr
  have HC := Aside0.mk hc
  have HE := Aside0.mk hr1
  have HEC := Aside0.mk hc1
  clear hr hc hr1 hc1
  have hmb : decide (m1 < 0) = true := decide_eq_true hm
  have H1 := Aside0.mk h1
  clear h1 hm
  go_enter Try.func19, Try.ntmps19
  go_upto_region 1 with ((with_reducible refine gate_dst (N := 2) rfl ?_); refine box_event ?hg (N := 2) ?hd (cs := #[.int .i64 n, .slice A l.length c]) (t := 25) ?hr ?_; (case hd => rfl); (case hg => rfl); (case hr => first | (go_simp; done) | (go_simp; rfl)); intro gl el w1 kl kb; have Z0 : Aside0 (w.heap.size ≤ w1.heap.size) := ⟨kb.size⟩; have F1 : Aside0 (Below w.heap.size w w1) := ⟨kb⟩; have F2 : Aside0 (w1.heap[gl]? = some (.cells #[.int .i64 n, .slice A l.length c] 25 (0, 0))) := ⟨kl⟩; have EG0 : Aside0 (gl = w.heap.size) := ⟨el⟩; have EG2 : Aside0 (gl < w1.heap.size) := ⟨blk_lt kl⟩; clear kb kl el)
  have kl0 : w1.cell? ⟨gl, 0, none⟩ = some (.int .i64 n) := (blk_cell F2.out 0).trans rfl
  have kl1 : w1.cell? ⟨gl, 1, none⟩ = some (.slice A l.length c) := (blk_cell F2.out 1).trans rfl
  go_wp2_with (go_at_call 22; refine (laws_szLayout.calls n A c l 1048576 m1 _ (Kd.C_below HR.out F1.out) HC.out H1.out).mono ?_; rintro e w2 ⟨rfl, hb⟩; have Z1 : Aside0 (w1.heap.size ≤ w2.heap.size) := ⟨hb.size⟩; have F3 : Aside0 (Below w.heap.size w w2) := ⟨below_step F1.out hb⟩; clear F1; have F4 : Aside0 (w2.heap[gl]? = some (.cells #[.int .i64 n, .slice A l.length c] 25 (0, 0))) := ⟨blk_below F2.out hb⟩; clear F2; clear hb)
  go_ret
  exact ⟨rfl, F3.out⟩
set_option maxHeartbeats 16000000 in
set_option maxRecDepth 100000 in
theorem too2 (n : Int) (A : Option Addr) (c : Nat) (l : List S160) (A1 : Option Addr) (c1 : Nat) (es : List S54) (w : World) (hr : Kd.C k160 w A l.length l) (hc : l.length ≤ c) (hr1 : Kd.C k54 w A1 es.length es) (hc1 : es.length ≤ c1) (m1 m2 : Int) (h1 : laws_szLayout.f n l 1048576 = some m1) (hm : 0 ≤ m1) (h2 : laws_szEventS.f es m1 = some m2) (hm2 : m2 < 0) :
    Calls Try.prog 19 #[.agg #[.int .i64 n, .slice A l.length c], .slice A1 es.length c1] w fun e w' => e = .returned (.bool true) ∧ Below w.heap.size w w' := by
  have HR := Aside0.mk hr
  have HC := Aside0.mk hc
  have HE := Aside0.mk hr1
  have HEC := Aside0.mk hc1
  clear hr hc hr1 hc1
  have hmb : decide (m1 < 0) = false := decide_eq_false (by omega)
  have hmb2 : decide (m2 < 0) = true := decide_eq_true hm2
  have H1 := Aside0.mk h1
  have H2 := Aside0.mk h2
  clear h1 hm h2 hm2
  go_enter Try.func19, Try.ntmps19
  go_upto_region 1 with ((with_reducible refine gate_dst (N := 2) rfl ?_); refine box_event ?hg (N := 2) ?hd (cs := #[.int .i64 n, .slice A l.length c]) (t := 25) ?hr ?_; (case hd => rfl); (case hg => rfl); (case hr => first | (go_simp; done) | (go_simp; rfl)); intro gl el w1 kl kb; have Z0 : Aside0 (w.heap.size ≤ w1.heap.size) := ⟨kb.size⟩; have F1 : Aside0 (Below w.heap.size w w1) := ⟨kb⟩; have F2 : Aside0 (w1.heap[gl]? = some (.cells #[.int .i64 n, .slice A l.length c] 25 (0, 0))) := ⟨kl⟩; have EG0 : Aside0 (gl = w.heap.size) := ⟨el⟩; have EG2 : Aside0 (gl < w1.heap.size) := ⟨blk_lt kl⟩; clear kb kl el)
  have kl0 : w1.cell? ⟨gl, 0, none⟩ = some (.int .i64 n) := (blk_cell F2.out 0).trans rfl
  have kl1 : w1.cell? ⟨gl, 1, none⟩ = some (.slice A l.length c) := (blk_cell F2.out 1).trans rfl
  go_upto_region 5 with (go_at_call 22; refine (laws_szLayout.calls n A c l 1048576 m1 _ (Kd.C_below HR.out F1.out) HC.out H1.out).mono ?_; rintro e w2 ⟨rfl, hb⟩; have Z1 : Aside0 (w1.heap.size ≤ w2.heap.size) := ⟨hb.size⟩; have F3 : Aside0 (Below w.heap.size w w2) := ⟨below_step F1.out hb⟩; clear F1; have F4 : Aside0 (w2.heap[gl]? = some (.cells #[.int .i64 n, .slice A l.length c] 25 (0, 0))) := ⟨blk_below F2.out hb⟩; clear F2; clear hb)
  clear kl0 kl1
  go_wp2_with (go_at_call 48; refine (laws_szEventS.calls A1 c1 es m1 m2 _ (Kd.C_below HE.out F3.out) HEC.out H2.out).mono ?_; rintro e w3 ⟨rfl, hb0⟩; have hb := hb0.below; have Z2 : Aside0 (w2.heap.size ≤ w3.heap.size) := ⟨hb.size⟩; have F5 : Aside0 (Below w.heap.size w w3) := ⟨below_step F3.out hb⟩; clear F3; have F6 : Aside0 (w3.heap[gl]? = some (.cells #[.int .i64 n, .slice A l.length c] 25 (0, 0))) := ⟨blk_below F4.out hb⟩; clear F4; clear hb; clear hb0)
  go_ret
  exact ⟨rfl, F5.out⟩
set_option maxHeartbeats 16000000 in
set_option maxRecDepth 100000 in
theorem whole (n : Int) (A : Option Addr) (c : Nat) (l : List S160) (A1 : Option Addr) (c1 : Nat) (es : List S54) (w : World) (hr : Kd.C k160 w A l.length l) (hc : l.length ≤ c) (hr1 : Kd.C k54 w A1 es.length es) (hc1 : es.length ≤ c1) (m1 m2 : Int) (h1 : laws_szLayout.f n l 1048576 = some m1) (hm : 0 ≤ m1) (h2 : laws_szEventS.f es m1 = some m2) (hm2 : 0 ≤ m2) (lc : List S88) (ec : List S56) (hcl : lc.length ≤ 1048576) (hel : ec.length ≤ 1048576) (evTL : Ev (fun k => laws_toLayout.f k n l) (n, lc)) (evTE : Ev (fun k => laws_toEventS.f k es) ec) :
    Calls Try.prog 19 #[.agg #[.int .i64 n, .slice A l.length c], .slice A1 es.length c1] w fun e w' => e = .returned (.bool true) ∧ Below w.heap.size w w' := by
  have HR := Aside0.mk hr
  have HC := Aside0.mk hc
  have HE := Aside0.mk hr1
  have HEC := Aside0.mk hc1
  clear hr hc hr1 hc1
  have hmb : decide (m1 < 0) = false := decide_eq_false (by omega)
  have hmb2 : decide (m2 < 0) = false := decide_eq_false (by omega)
  have H1 := Aside0.mk h1
  have H2 := Aside0.mk h2
  clear h1 hm h2 hm2
  have HRL := Aside0.mk (run_bounds n lc ec)
  obtain ⟨kTL, hTL⟩ := (evTL).rounds
  have ETL := Aside0.mk hTL
  clear hTL
  obtain ⟨kTE, hTE⟩ := (evTE).rounds
  have ETE := Aside0.mk hTE
  clear hTE
  obtain ⟨kEL, hEL⟩ := (eqLayout_ev n lc hcl).rounds
  have EEL := Aside0.mk hEL
  clear hEL
  obtain ⟨kEE, hEE⟩ := (eqEventS_ev ec hel).rounds
  have EEE := Aside0.mk hEE
  clear hEE
  obtain ⟨kML, hML⟩ := (markLayout_ev n lc 1 (by omega) (by omega)).rounds
  have EML := Aside0.mk hML
  clear hML
  obtain ⟨rME, hrME⟩ := markEventS_ev ec (1 + 2 * (lc.length : Int)) hel (by omega) (by omega)
  obtain ⟨kME, hME⟩ := (hrME).rounds
  have EME := Aside0.mk hME
  clear hME
  clear hrME
  generalize hk2 : ((1 + 2 * (lc.length : Int)) + 3 * (ec.length : Int)) = k2 at EME
  have hk2b : decide (k2 < 0) = false := decide_eq_false (by omega)
  clear hk2
  generalize hk1 : (1 + 2 * (lc.length : Int)) = k1 at EME EML
  clear hk1
  have hmp : decide ((1 + (totD (run n lc ec) : Int)) < 0) = false := decide_eq_false (by omega)
  clear hcl hel evTL evTE
  go_enter Try.func19, Try.ntmps19
  go_upto_region 1 with ((with_reducible refine gate_dst (N := 2) rfl ?_); refine box_event ?hg (N := 2) ?hd (cs := #[.int .i64 n, .slice A l.length c]) (t := 25) ?hr ?_; (case hd => rfl); (case hg => rfl); (case hr => first | (go_simp; done) | (go_simp; rfl)); intro gl el w1 kl kb; have Z0 : Aside0 (w.heap.size ≤ w1.heap.size) := ⟨kb.size⟩; have F1 : Aside0 (Below w.heap.size w w1) := ⟨kb⟩; have F2 : Aside0 (w1.heap[gl]? = some (.cells #[.int .i64 n, .slice A l.length c] 25 (0, 0))) := ⟨kl⟩; have EG0 : Aside0 (gl = w.heap.size) := ⟨el⟩; have EG2 : Aside0 (gl < w1.heap.size) := ⟨blk_lt kl⟩; clear kb kl el)
  have kl0 : w1.cell? ⟨gl, 0, none⟩ = some (.int .i64 n) := (blk_cell F2.out 0).trans rfl
  have kl1 : w1.cell? ⟨gl, 1, none⟩ = some (.slice A l.length c) := (blk_cell F2.out 1).trans rfl
  go_upto_region 5 with (go_at_call 22; refine (laws_szLayout.calls n A c l 1048576 m1 _ (Kd.C_below HR.out F1.out) HC.out H1.out).mono ?_; rintro e w2 ⟨rfl, hb⟩; have Z1 : Aside0 (w1.heap.size ≤ w2.heap.size) := ⟨hb.size⟩; have F3 : Aside0 (Below w.heap.size w w2) := ⟨below_step F1.out hb⟩; clear F1; have F4 : Aside0 (w2.heap[gl]? = some (.cells #[.int .i64 n, .slice A l.length c] 25 (0, 0))) := ⟨blk_below F2.out hb⟩; clear F2; clear hb)
  clear kl0 kl1
  go_upto_region 8 with (go_at_call 48; refine (laws_szEventS.calls A1 c1 es m1 m2 _ (Kd.C_below HE.out F3.out) HEC.out H2.out).mono ?_; rintro e w3 ⟨rfl, hb0⟩; have hb := hb0.below; have Z2 : Aside0 (w2.heap.size ≤ w3.heap.size) := ⟨hb.size⟩; have F5 : Aside0 (Below w.heap.size w w3) := ⟨below_step F3.out hb⟩; clear F3; have F6 : Aside0 (w3.heap[gl]? = some (.cells #[.int .i64 n, .slice A l.length c] 25 (0, 0))) := ⟨blk_below F4.out hb⟩; clear F4; clear hb; clear hb0)
  have kl0 : w3.cell? ⟨gl, 0, none⟩ = some (.int .i64 n) := (blk_cell F6.out 0).trans rfl
  have kl1 : w3.cell? ⟨gl, 1, none⟩ = some (.slice A l.length c) := (blk_cell F6.out 1).trans rfl
  go_upto_region 9 with (first | (go_at_call 24; refine (laws_toLayout.calls kTL n A c l n lc _ (Kd.C_below HR.out F5.out) HC.out ETL.out).mono ?_; rintro e w4 ⟨v, rfl, ho, hb⟩; have BSZ := (F5.out).size; have Z3 : Aside0 (w3.heap.size ≤ w4.heap.size) := ⟨hb.size⟩; have F7 : Aside0 (Below w.heap.size w w4) := ⟨below_step F5.out hb⟩; clear F5; have F8 : Aside0 (w4.heap[gl]? = some (.cells #[.int .i64 n, .slice A l.length c] 25 (0, 0))) := ⟨blk_below F6.out hb⟩; clear F6; obtain ⟨A4, c4, rfl⟩ := Kd.R_slice ho; have F9 : Aside0 (Kd.R k88 88 w4 w.heap.size (fun k => w3.heap.size ≤ k ∧ k < w4.heap.size) (.slice A4 lc.length c4) lc) := ⟨Kd.R_mono (Kd.R_lower (Kd.R_bound ho) BSZ) (fun k hq => ⟨hq.2.1, hq.2.2.1⟩)⟩; clear ho; clear hb BSZ) | (go_at_call 50; refine (laws_toEventS.calls kTE A1 c1 es ec _ (Kd.C_below HE.out F7.out) HEC.out ETE.out).mono ?_; rintro e w5 ⟨v, rfl, ho, hb⟩; have BSZ := (F7.out).size; have Z4 : Aside0 (w4.heap.size ≤ w5.heap.size) := ⟨hb.size⟩; have F10 : Aside0 (Below w.heap.size w w5) := ⟨below_step F7.out hb⟩; clear F7; have F11 : Aside0 (w5.heap[gl]? = some (.cells #[.int .i64 n, .slice A l.length c] 25 (0, 0))) := ⟨blk_below F8.out hb⟩; clear F8; have F12 : Aside0 (Kd.R k88 88 w5 w.heap.size (fun k => w3.heap.size ≤ k ∧ k < w4.heap.size) (.slice A4 lc.length c4) lc) := ⟨Kd.R_below F9.out hb⟩; clear F9; obtain ⟨A5, c5, rfl⟩ := Kd.R_slice ho; have F13 : Aside0 (Kd.R k56 56 w5 w.heap.size (fun k => w4.heap.size ≤ k ∧ k < w5.heap.size) (.slice A5 ec.length c5) ec) := ⟨Kd.R_mono (Kd.R_lower (Kd.R_bound ho) BSZ) (fun k hq => ⟨hq.2.1, hq.2.2.1⟩)⟩; clear ho; clear hb BSZ) | (go_at_call 28; refine (srun_is n _ _ lc _ _ ec _ (Kd.R_reads' F12.out).2.2 (Kd.R_reads' F12.out).2.1 (Kd.R_reads' F13.out).2.2 (Kd.R_reads' F13.out).2.1).mono ?_; rintro e w6 ⟨v, rfl, ho, hb⟩; have BSZ := (F10.out).size; have Z5 : Aside0 (w5.heap.size ≤ w6.heap.size) := ⟨hb.size⟩; have F14 : Aside0 (Below w.heap.size w w6) := ⟨below_step F10.out hb⟩; clear F10; have F15 : Aside0 (w6.heap[gl]? = some (.cells #[.int .i64 n, .slice A l.length c] 25 (0, 0))) := ⟨blk_below F11.out hb⟩; clear F11; have F16 : Aside0 (Kd.R k88 88 w6 w.heap.size (fun k => w3.heap.size ≤ k ∧ k < w4.heap.size) (.slice A4 lc.length c4) lc) := ⟨Kd.R_below F12.out hb⟩; clear F12; have F17 : Aside0 (Kd.R k56 56 w6 w.heap.size (fun k => w4.heap.size ≤ k ∧ k < w5.heap.size) (.slice A5 ec.length c5) ec) := ⟨Kd.R_below F13.out hb⟩; clear F13; obtain ⟨A6, c6, rfl⟩ := Kd.S_slice ho; have F18 : Aside0 (Kd.S k48 48 w6 w.heap.size (fun k => w5.heap.size ≤ k ∧ k < w6.heap.size) (.slice A6 (run n lc ec).length c6) (run n lc ec)) := ⟨Kd.S_mono (Kd.S_lower (Kd.S_bound ho) BSZ) (fun k hq => ⟨hq.2.1, hq.2.2.1⟩)⟩; clear ho; clear hb BSZ))
  clear kl0 kl1
  clear F16
  clear F17
  have kl0 : w6.cell? ⟨gl, 0, none⟩ = some (.int .i64 n) := (blk_cell F15.out 0).trans rfl
  have kl1 : w6.cell? ⟨gl, 1, none⟩ = some (.slice A l.length c) := (blk_cell F15.out 1).trans rfl
  go_upto_region 10 with (first | (go_at_call 24; refine (laws_toLayout.calls kTL n A c l n lc _ (Kd.C_below HR.out F14.out) HC.out ETL.out).mono ?_; rintro e w7 ⟨v, rfl, ho, hb⟩; have BSZ := (F14.out).size; have Z6 : Aside0 (w6.heap.size ≤ w7.heap.size) := ⟨hb.size⟩; have F19 : Aside0 (Below w.heap.size w w7) := ⟨below_step F14.out hb⟩; clear F14; have F20 : Aside0 (w7.heap[gl]? = some (.cells #[.int .i64 n, .slice A l.length c] 25 (0, 0))) := ⟨blk_below F15.out hb⟩; clear F15; have F21 : Aside0 (Kd.S k48 48 w7 w.heap.size (fun k => w5.heap.size ≤ k ∧ k < w6.heap.size) (.slice A6 (run n lc ec).length c6) (run n lc ec)) := ⟨Kd.S_below F18.out hb⟩; clear F18; obtain ⟨A7, c7, rfl⟩ := Kd.R_slice ho; have F22 : Aside0 (Kd.R k88 88 w7 w.heap.size (fun k => w6.heap.size ≤ k ∧ k < w7.heap.size) (.slice A7 lc.length c7) lc) := ⟨Kd.R_mono (Kd.R_lower (Kd.R_bound ho) BSZ) (fun k hq => ⟨hq.2.1, hq.2.2.1⟩)⟩; clear ho; clear hb BSZ) | ((with_reducible refine gate_dst (N := 7) rfl ?_); refine box_event ?hg (N := 7) ?hd (cs := #[.int .i64 0, .slice none 0 0]) (t := 30) ?hr ?_; (case hd => rfl); (case hg => rfl); (case hr => first | (go_simp; done) | (go_simp; rfl)); intro gx ex w8 kx bx; have zx0 := blk_frozen kx 0; have zx1 := blk_frozen kx 1; have kx0 := (blk_cell kx 0).trans (show _ = some (Value.int .i64 0) from rfl); have kx1 := (blk_cell kx 1).trans (show _ = some (Value.slice none 0 0) from rfl); have KX := Aside0.mk kx; have EX := Aside0.mk ex; have BX := Aside0.mk bx; clear kx ex bx))
  clear kl0 kl1
  have KY := Aside0.mk (blk_put (blk_put KX.out 0 (.int .i64 n) rfl) 1 (.slice A7 lc.length c7) rfl)
  have BY := Aside0.mk (below_set (j := 1) (v := (.slice A7 lc.length c7)) (below_set (j := 0) (v := .int .i64 n) BX.out (Nat.le_of_eq EX.out.symm)) (Nat.le_of_eq EX.out.symm))
  clear KX BX zx0 zx1 kx0 kx1
  generalize ((w8.setCell ⟨gx, 0, none⟩ (.int .i64 n)).setCell ⟨gx, 1, none⟩ (.slice A7 lc.length c7)) = w9 at KY BY ⊢
  have Z7 : Aside0 (w7.heap.size ≤ w9.heap.size) := ⟨BY.out.size⟩
  have F23 : Aside0 (Below w.heap.size w w9) := ⟨below_step F19.out BY.out⟩
  clear F19
  have F24 : Aside0 (w9.heap[gl]? = some (.cells #[.int .i64 n, .slice A l.length c] 25 (0, 0))) := ⟨blk_below F20.out BY.out⟩
  clear F20
  have F25 : Aside0 (Kd.S k48 48 w9 w.heap.size (fun k => w5.heap.size ≤ k ∧ k < w6.heap.size) (.slice A6 (run n lc ec).length c6) (run n lc ec)) := ⟨Kd.S_below F21.out BY.out⟩
  clear F21
  have F26 : Aside0 (Kd.R k88 88 w9 w.heap.size (fun k => w6.heap.size ≤ k ∧ k < w7.heap.size) (.slice A7 lc.length c7) lc) := ⟨Kd.R_below F22.out BY.out⟩
  clear F22
  clear BY
  have EX2 : Aside0 (gx < w9.heap.size) := ⟨blk_lt KY.out⟩
  go_upto_region 11 with (go_at_call 50; refine (laws_toEventS.calls kTE A1 c1 es ec _ (Kd.C_below HE.out F23.out) HEC.out ETE.out).mono ?_; rintro e w10 ⟨v, rfl, ho, hb⟩; have BSZ := (F23.out).size; have Z8 : Aside0 (w9.heap.size ≤ w10.heap.size) := ⟨hb.size⟩; have F27 : Aside0 (Below w.heap.size w w10) := ⟨below_step F23.out hb⟩; clear F23; have F28 : Aside0 (w10.heap[gl]? = some (.cells #[.int .i64 n, .slice A l.length c] 25 (0, 0))) := ⟨blk_below F24.out hb⟩; clear F24; have F29 : Aside0 (Kd.S k48 48 w10 w.heap.size (fun k => w5.heap.size ≤ k ∧ k < w6.heap.size) (.slice A6 (run n lc ec).length c6) (run n lc ec)) := ⟨Kd.S_below F25.out hb⟩; clear F25; have F30 : Aside0 (Kd.R k88 88 w10 w.heap.size (fun k => w6.heap.size ≤ k ∧ k < w7.heap.size) (.slice A7 lc.length c7) lc) := ⟨Kd.R_below F26.out hb⟩; clear F26; have F31 : Aside0 (w10.heap[gx]? = some (.cells #[.int .i64 n, (.slice A7 lc.length c7)] 30 (0, 0))) := ⟨blk_below KY.out hb⟩; clear KY; obtain ⟨A10, c10, rfl⟩ := Kd.R_slice ho; have F32 : Aside0 (Kd.R k56 56 w10 w.heap.size (fun k => w9.heap.size ≤ k ∧ k < w10.heap.size) (.slice A10 ec.length c10) ec) := ⟨Kd.R_mono (Kd.R_lower (Kd.R_bound ho) BSZ) (fun k hq => ⟨hq.2.1, hq.2.2.1⟩)⟩; clear ho; clear hb BSZ)
  have kx0 : w10.cell? ⟨gx, 0, none⟩ = some (.int .i64 n) := (blk_cell F31.out 0).trans rfl
  have kx1 : w10.cell? ⟨gx, 1, none⟩ = some ((.slice A7 lc.length c7)) := (blk_cell F31.out 1).trans rfl
  go_upto_region 12 with (go_at_call 29; refine (run_is n _ _ lc _ _ ec _ (Kd.R_reads' F30.out).2.2 (Kd.R_reads' F30.out).2.1 (Kd.R_reads' F32.out).2.2 (Kd.R_reads' F32.out).2.1).mono ?_; rintro e w11 ⟨v, rfl, ho, hb⟩; have BSZ := (F27.out).size; have Z9 : Aside0 (w10.heap.size ≤ w11.heap.size) := ⟨hb.size⟩; have F33 : Aside0 (Below w.heap.size w w11) := ⟨below_step F27.out hb⟩; clear F27; have F34 : Aside0 (w11.heap[gl]? = some (.cells #[.int .i64 n, .slice A l.length c] 25 (0, 0))) := ⟨blk_below F28.out hb⟩; clear F28; have F35 : Aside0 (Kd.S k48 48 w11 w.heap.size (fun k => w5.heap.size ≤ k ∧ k < w6.heap.size) (.slice A6 (run n lc ec).length c6) (run n lc ec)) := ⟨Kd.S_below F29.out hb⟩; clear F29; have F36 : Aside0 (Kd.R k88 88 w11 w.heap.size (fun k => w6.heap.size ≤ k ∧ k < w7.heap.size) (.slice A7 lc.length c7) lc) := ⟨Kd.R_below F30.out hb⟩; clear F30; have F37 : Aside0 (w11.heap[gx]? = some (.cells #[.int .i64 n, (.slice A7 lc.length c7)] 30 (0, 0))) := ⟨blk_below F31.out hb⟩; clear F31; have F38 : Aside0 (Kd.R k56 56 w11 w.heap.size (fun k => w9.heap.size ≤ k ∧ k < w10.heap.size) (.slice A10 ec.length c10) ec) := ⟨Kd.R_below F32.out hb⟩; clear F32; obtain ⟨A11, c11, rfl⟩ := Kd.S_slice ho; have F39 : Aside0 (Kd.S k48 48 w11 w.heap.size (fun k => w10.heap.size ≤ k ∧ k < w11.heap.size) (.slice A11 (run n lc ec).length c11) (run n lc ec)) := ⟨Kd.S_mono (Kd.S_lower (Kd.S_bound ho) BSZ) (fun k hq => ⟨hq.2.1, hq.2.2.1⟩)⟩; clear ho; clear hb BSZ)
  clear kx0 kx1
  go_upto_region 14 with (go_at_call 76; refine (eqD_any F39.out F35.out HRL.out.1 HRL.out.2.2).mono ?_; rintro e w12 ⟨rfl, hb⟩; have Z10 : Aside0 (w11.heap.size ≤ w12.heap.size) := ⟨hb.size⟩; have F40 : Aside0 (Below w.heap.size w w12) := ⟨below_step F33.out hb⟩; clear F33; have F41 : Aside0 (w12.heap[gl]? = some (.cells #[.int .i64 n, .slice A l.length c] 25 (0, 0))) := ⟨blk_below F34.out hb⟩; clear F34; have F42 : Aside0 (Kd.S k48 48 w12 w.heap.size (fun k => w5.heap.size ≤ k ∧ k < w6.heap.size) (.slice A6 (run n lc ec).length c6) (run n lc ec)) := ⟨Kd.S_below F35.out hb⟩; clear F35; have F43 : Aside0 (Kd.R k88 88 w12 w.heap.size (fun k => w6.heap.size ≤ k ∧ k < w7.heap.size) (.slice A7 lc.length c7) lc) := ⟨Kd.R_below F36.out hb⟩; clear F36; have F44 : Aside0 (w12.heap[gx]? = some (.cells #[.int .i64 n, (.slice A7 lc.length c7)] 30 (0, 0))) := ⟨blk_below F37.out hb⟩; clear F37; have F45 : Aside0 (Kd.R k56 56 w12 w.heap.size (fun k => w9.heap.size ≤ k ∧ k < w10.heap.size) (.slice A10 ec.length c10) ec) := ⟨Kd.R_below F38.out hb⟩; clear F38; have F46 : Aside0 (Kd.S k48 48 w12 w.heap.size (fun k => w10.heap.size ≤ k ∧ k < w11.heap.size) (.slice A11 (run n lc ec).length c11) (run n lc ec)) := ⟨Kd.S_below F39.out hb⟩; clear F39; clear hb)
  have kl0 : w12.cell? ⟨gl, 0, none⟩ = some (.int .i64 n) := (blk_cell F41.out 0).trans rfl
  have kl1 : w12.cell? ⟨gl, 1, none⟩ = some (.slice A l.length c) := (blk_cell F41.out 1).trans rfl
  have kx0 : w12.cell? ⟨gx, 0, none⟩ = some (.int .i64 n) := (blk_cell F44.out 0).trans rfl
  have kx1 : w12.cell? ⟨gx, 1, none⟩ = some ((.slice A7 lc.length c7)) := (blk_cell F44.out 1).trans rfl
  have Z11 : Aside0 (w12.heap.size ≤ w12.drew.heap.size) := ⟨(below_drew1 (Below.refl w12.heap.size w12)).size⟩
  have F47 : Aside0 (Below w.heap.size w w12.drew) := ⟨below_step F40.out (below_drew1 (Below.refl w12.heap.size w12))⟩
  clear F40
  have F48 : Aside0 (w12.drew.heap[gl]? = some (.cells #[.int .i64 n, .slice A l.length c] 25 (0, 0))) := ⟨blk_below F41.out (below_drew1 (Below.refl w12.heap.size w12))⟩
  clear F41
  have F49 : Aside0 (Kd.S k48 48 w12.drew w.heap.size (fun k => w5.heap.size ≤ k ∧ k < w6.heap.size) (.slice A6 (run n lc ec).length c6) (run n lc ec)) := ⟨Kd.S_below F42.out (below_drew1 (Below.refl w12.heap.size w12))⟩
  clear F42
  have F50 : Aside0 (Kd.R k88 88 w12.drew w.heap.size (fun k => w6.heap.size ≤ k ∧ k < w7.heap.size) (.slice A7 lc.length c7) lc) := ⟨Kd.R_below F43.out (below_drew1 (Below.refl w12.heap.size w12))⟩
  clear F43
  have F51 : Aside0 (w12.drew.heap[gx]? = some (.cells #[.int .i64 n, (.slice A7 lc.length c7)] 30 (0, 0))) := ⟨blk_below F44.out (below_drew1 (Below.refl w12.heap.size w12))⟩
  clear F44
  have F52 : Aside0 (Kd.R k56 56 w12.drew w.heap.size (fun k => w9.heap.size ≤ k ∧ k < w10.heap.size) (.slice A10 ec.length c10) ec) := ⟨Kd.R_below F45.out (below_drew1 (Below.refl w12.heap.size w12))⟩
  clear F45
  have F53 : Aside0 (Kd.S k48 48 w12.drew w.heap.size (fun k => w10.heap.size ≤ k ∧ k < w11.heap.size) (.slice A11 (run n lc ec).length c11) (run n lc ec)) := ⟨Kd.S_below F46.out (below_drew1 (Below.refl w12.heap.size w12))⟩
  clear F46
  go_region_held3 (fun w' => w'.cell? ⟨gl, 0, none⟩ = some (.int .i64 n) ∧ w'.cell? ⟨gl, 1, none⟩ = some (.slice A l.length c) ∧ w'.cell? ⟨gx, 0, none⟩ = some (.int .i64 n) ∧ w'.cell? ⟨gx, 1, none⟩ = some (.slice A7 lc.length c7))
    (first | go_keep | (go_split_ands; (repeat' apply And.intro) <;> (refine pw_cell_below hbk.out ?_; assumption)))
    (first | (go_at_call 24; refine (laws_toLayout.calls kTL n A c l n lc _ (Kd.C_below HR.out F47.out) HC.out ETL.out).mono ?_; rintro e w13 ⟨v, rfl, ho, hb⟩; have BSZ := (F47.out).size; have Z12 : Aside0 (w12.drew.heap.size ≤ w13.heap.size) := ⟨hb.size⟩; have F54 : Aside0 (Below w.heap.size w w13) := ⟨below_step F47.out hb⟩; clear F47; have F55 : Aside0 (w13.heap[gl]? = some (.cells #[.int .i64 n, .slice A l.length c] 25 (0, 0))) := ⟨blk_below F48.out hb⟩; clear F48; have F56 : Aside0 (Kd.S k48 48 w13 w.heap.size (fun k => w5.heap.size ≤ k ∧ k < w6.heap.size) (.slice A6 (run n lc ec).length c6) (run n lc ec)) := ⟨Kd.S_below F49.out hb⟩; clear F49; have F57 : Aside0 (Kd.R k88 88 w13 w.heap.size (fun k => w6.heap.size ≤ k ∧ k < w7.heap.size) (.slice A7 lc.length c7) lc) := ⟨Kd.R_below F50.out hb⟩; clear F50; have F58 : Aside0 (w13.heap[gx]? = some (.cells #[.int .i64 n, (.slice A7 lc.length c7)] 30 (0, 0))) := ⟨blk_below F51.out hb⟩; clear F51; have F59 : Aside0 (Kd.R k56 56 w13 w.heap.size (fun k => w9.heap.size ≤ k ∧ k < w10.heap.size) (.slice A10 ec.length c10) ec) := ⟨Kd.R_below F52.out hb⟩; clear F52; have F60 : Aside0 (Kd.S k48 48 w13 w.heap.size (fun k => w10.heap.size ≤ k ∧ k < w11.heap.size) (.slice A11 (run n lc ec).length c11) (run n lc ec)) := ⟨Kd.S_below F53.out hb⟩; clear F53; obtain ⟨A13, c13, rfl⟩ := Kd.R_slice ho; have F61 : Aside0 (Kd.R k88 88 w13 w.heap.size (fun k => w12.drew.heap.size ≤ k ∧ k < w13.heap.size) (.slice A13 lc.length c13) lc) := ⟨Kd.R_mono (Kd.R_lower (Kd.R_bound ho) BSZ) (fun k hq => ⟨hq.2.1, hq.2.2.1⟩)⟩; clear ho; have hbk := Aside0.mk hb; clear hb BSZ) | (go_at_call 26; refine (laws_eqLayout.calls kEL n _ _ lc n _ _ lc true _ (Kd.R_reads' F57.out).2.2 (Kd.R_reads' F57.out).2.1 (Kd.R_reads' F61.out).2.2 (Kd.R_reads' F61.out).2.1 EEL.out).mono ?_; rintro e w14 ⟨rfl, hb⟩; have Z13 : Aside0 (w13.heap.size ≤ w14.heap.size) := ⟨hb.size⟩; have F62 : Aside0 (Below w.heap.size w w14) := ⟨below_step F54.out hb⟩; clear F54; have F63 : Aside0 (w14.heap[gl]? = some (.cells #[.int .i64 n, .slice A l.length c] 25 (0, 0))) := ⟨blk_below F55.out hb⟩; clear F55; have F64 : Aside0 (Kd.S k48 48 w14 w.heap.size (fun k => w5.heap.size ≤ k ∧ k < w6.heap.size) (.slice A6 (run n lc ec).length c6) (run n lc ec)) := ⟨Kd.S_below F56.out hb⟩; clear F56; have F65 : Aside0 (Kd.R k88 88 w14 w.heap.size (fun k => w6.heap.size ≤ k ∧ k < w7.heap.size) (.slice A7 lc.length c7) lc) := ⟨Kd.R_below F57.out hb⟩; clear F57; have F66 : Aside0 (w14.heap[gx]? = some (.cells #[.int .i64 n, (.slice A7 lc.length c7)] 30 (0, 0))) := ⟨blk_below F58.out hb⟩; clear F58; have F67 : Aside0 (Kd.R k56 56 w14 w.heap.size (fun k => w9.heap.size ≤ k ∧ k < w10.heap.size) (.slice A10 ec.length c10) ec) := ⟨Kd.R_below F59.out hb⟩; clear F59; have F68 : Aside0 (Kd.S k48 48 w14 w.heap.size (fun k => w10.heap.size ≤ k ∧ k < w11.heap.size) (.slice A11 (run n lc ec).length c11) (run n lc ec)) := ⟨Kd.S_below F60.out hb⟩; clear F60; have F69 : Aside0 (Kd.R k88 88 w14 w.heap.size (fun k => w12.drew.heap.size ≤ k ∧ k < w13.heap.size) (.slice A13 lc.length c13) lc) := ⟨Kd.R_below F61.out hb⟩; clear F61; have hbk := Aside0.mk hb; clear hb))
  clear kl0 kl1 kx0 kx1
  clear F69
  go_upto_region 16 with fail
  go_upto_region 18 with (first | (go_at_call 50; refine (laws_toEventS.calls kTE A1 c1 es ec _ (Kd.C_below HE.out F62.out) HEC.out ETE.out).mono ?_; rintro e w15 ⟨v, rfl, ho, hb⟩; have BSZ := (F62.out).size; have Z14 : Aside0 (w14.heap.size ≤ w15.heap.size) := ⟨hb.size⟩; have F70 : Aside0 (Below w.heap.size w w15) := ⟨below_step F62.out hb⟩; clear F62; have F71 : Aside0 (w15.heap[gl]? = some (.cells #[.int .i64 n, .slice A l.length c] 25 (0, 0))) := ⟨blk_below F63.out hb⟩; clear F63; have F72 : Aside0 (Kd.S k48 48 w15 w.heap.size (fun k => w5.heap.size ≤ k ∧ k < w6.heap.size) (.slice A6 (run n lc ec).length c6) (run n lc ec)) := ⟨Kd.S_below F64.out hb⟩; clear F64; have F73 : Aside0 (Kd.R k88 88 w15 w.heap.size (fun k => w6.heap.size ≤ k ∧ k < w7.heap.size) (.slice A7 lc.length c7) lc) := ⟨Kd.R_below F65.out hb⟩; clear F65; have F74 : Aside0 (w15.heap[gx]? = some (.cells #[.int .i64 n, (.slice A7 lc.length c7)] 30 (0, 0))) := ⟨blk_below F66.out hb⟩; clear F66; have F75 : Aside0 (Kd.R k56 56 w15 w.heap.size (fun k => w9.heap.size ≤ k ∧ k < w10.heap.size) (.slice A10 ec.length c10) ec) := ⟨Kd.R_below F67.out hb⟩; clear F67; have F76 : Aside0 (Kd.S k48 48 w15 w.heap.size (fun k => w10.heap.size ≤ k ∧ k < w11.heap.size) (.slice A11 (run n lc ec).length c11) (run n lc ec)) := ⟨Kd.S_below F68.out hb⟩; clear F68; obtain ⟨A15, c15, rfl⟩ := Kd.R_slice ho; have F77 : Aside0 (Kd.R k56 56 w15 w.heap.size (fun k => w14.heap.size ≤ k ∧ k < w15.heap.size) (.slice A15 ec.length c15) ec) := ⟨Kd.R_mono (Kd.R_lower (Kd.R_bound ho) BSZ) (fun k hq => ⟨hq.2.1, hq.2.2.1⟩)⟩; clear ho; clear hb BSZ) | (go_at_call 52; refine (laws_eqEventS.calls kEE _ _ ec _ _ ec true _ (Kd.R_reads' F75.out).2.2 (Kd.R_reads' F75.out).2.1 (Kd.R_reads' F77.out).2.2 (Kd.R_reads' F77.out).2.1 EEE.out).mono ?_; rintro e w16 ⟨rfl, hb⟩; have Z15 : Aside0 (w15.heap.size ≤ w16.heap.size) := ⟨hb.size⟩; have F78 : Aside0 (Below w.heap.size w w16) := ⟨below_step F70.out hb⟩; clear F70; have F79 : Aside0 (w16.heap[gl]? = some (.cells #[.int .i64 n, .slice A l.length c] 25 (0, 0))) := ⟨blk_below F71.out hb⟩; clear F71; have F80 : Aside0 (Kd.S k48 48 w16 w.heap.size (fun k => w5.heap.size ≤ k ∧ k < w6.heap.size) (.slice A6 (run n lc ec).length c6) (run n lc ec)) := ⟨Kd.S_below F72.out hb⟩; clear F72; have F81 : Aside0 (Kd.R k88 88 w16 w.heap.size (fun k => w6.heap.size ≤ k ∧ k < w7.heap.size) (.slice A7 lc.length c7) lc) := ⟨Kd.R_below F73.out hb⟩; clear F73; have F82 : Aside0 (w16.heap[gx]? = some (.cells #[.int .i64 n, (.slice A7 lc.length c7)] 30 (0, 0))) := ⟨blk_below F74.out hb⟩; clear F74; have F83 : Aside0 (Kd.R k56 56 w16 w.heap.size (fun k => w9.heap.size ≤ k ∧ k < w10.heap.size) (.slice A10 ec.length c10) ec) := ⟨Kd.R_below F75.out hb⟩; clear F75; have F84 : Aside0 (Kd.S k48 48 w16 w.heap.size (fun k => w10.heap.size ≤ k ∧ k < w11.heap.size) (.slice A11 (run n lc ec).length c11) (run n lc ec)) := ⟨Kd.S_below F76.out hb⟩; clear F76; have F85 : Aside0 (Kd.R k56 56 w16 w.heap.size (fun k => w14.heap.size ≤ k ∧ k < w15.heap.size) (.slice A15 ec.length c15) ec) := ⟨Kd.R_below F77.out hb⟩; clear F77; clear hb))
  clear F85
  have kx0 : w16.cell? ⟨gx, 0, none⟩ = some (.int .i64 n) := (blk_cell F82.out 0).trans rfl
  have kx1 : w16.cell? ⟨gx, 1, none⟩ = some ((.slice A7 lc.length c7)) := (blk_cell F82.out 1).trans rfl
  go_upto_region 20 with (go_at_call 40; refine (laws_markLayout.calls kML n (fun k => w6.heap.size ≤ k ∧ k < w7.heap.size) _ lc 1 k1 _ w _ F78.out F81.out EML.out).mono ?_; rintro e w17 ⟨rfl, hm, hB, hk⟩; have hBB := hB; have Z16 : Aside0 (w16.heap.size ≤ w17.heap.size) := ⟨hk.1⟩; have F86 : Aside0 (Below w.heap.size w w17) := ⟨hB⟩; clear F78; have F87 : Aside0 (w17.heap[gl]? = some (.cells #[.int .i64 n, .slice A l.length c] 25 (0, 0))) := ⟨blk_kept F79.out hk (fun hq => by obtain ⟨hq1, hq2⟩ := hq; have := EG0.out; have := EG2.out; have := Z1.out; have := Z2.out; have := Z3.out; have := Z4.out; have := Z5.out; omega)⟩; clear F79; have F88 : Aside0 (Kd.S k48 48 w17 w.heap.size (fun k => w5.heap.size ≤ k ∧ k < w6.heap.size) (.slice A6 (run n lc ec).length c6) (run n lc ec)) := ⟨Kd.S_kept F80.out hk (fun k hq hr => by obtain ⟨hq1, hq2⟩ := hq; obtain ⟨hr1, hr2⟩ := hr; omega)⟩; clear F80; have F89 : Aside0 (w17.heap[gx]? = some (.cells #[.int .i64 n, (.slice A7 lc.length c7)] 30 (0, 0))) := ⟨blk_kept F82.out hk (fun hq => by obtain ⟨hq1, hq2⟩ := hq; have := EX.out; have := EX2.out; omega)⟩; clear F82; have F90 : Aside0 (Kd.R k56 56 w17 w.heap.size (fun k => w9.heap.size ≤ k ∧ k < w10.heap.size) (.slice A10 ec.length c10) ec) := ⟨Kd.R_kept F83.out hk (fun k hq hr => by obtain ⟨hq1, hq2⟩ := hq; obtain ⟨hr1, hr2⟩ := hr; have := Z7.out; omega)⟩; clear F83; have F91 : Aside0 (Kd.S k48 48 w17 w.heap.size (fun k => w10.heap.size ≤ k ∧ k < w11.heap.size) (.slice A11 (run n lc ec).length c11) (run n lc ec)) := ⟨Kd.S_kept F84.out hk (fun k hq hr => by obtain ⟨hq1, hq2⟩ := hq; obtain ⟨hr1, hr2⟩ := hr; have := Z7.out; have := Z8.out; omega)⟩; clear F84; clear hk hB hBB; clear hm)
  clear kx0 kx1
  clear F81
  clear F89
  go_upto_region 21 with (go_at_call 60; refine (laws_markEventS.calls kME (fun k => w9.heap.size ≤ k ∧ k < w10.heap.size) _ ec k1 k2 _ w _ F86.out F90.out EME.out).mono ?_; rintro e w18 ⟨rfl, hm, hB, hk⟩; have hBB := hB; have Z17 : Aside0 (w17.heap.size ≤ w18.heap.size) := ⟨hk.1⟩; have F92 : Aside0 (Below w.heap.size w w18) := ⟨hB⟩; clear F86; have F93 : Aside0 (w18.heap[gl]? = some (.cells #[.int .i64 n, .slice A l.length c] 25 (0, 0))) := ⟨blk_kept F87.out hk (fun hq => by obtain ⟨hq1, hq2⟩ := hq; have := EG0.out; have := EG2.out; have := Z1.out; have := Z2.out; have := Z3.out; have := Z4.out; have := Z5.out; have := Z6.out; have := Z7.out; omega)⟩; clear F87; have F94 : Aside0 (Kd.S k48 48 w18 w.heap.size (fun k => w5.heap.size ≤ k ∧ k < w6.heap.size) (.slice A6 (run n lc ec).length c6) (run n lc ec)) := ⟨Kd.S_kept F88.out hk (fun k hq hr => by obtain ⟨hq1, hq2⟩ := hq; obtain ⟨hr1, hr2⟩ := hr; have := Z6.out; have := Z7.out; omega)⟩; clear F88; have F95 : Aside0 (Kd.S k48 48 w18 w.heap.size (fun k => w10.heap.size ≤ k ∧ k < w11.heap.size) (.slice A11 (run n lc ec).length c11) (run n lc ec)) := ⟨Kd.S_kept F91.out hk (fun k hq hr => by obtain ⟨hq1, hq2⟩ := hq; obtain ⟨hr1, hr2⟩ := hr; omega)⟩; clear F91; clear hk hB hBB; clear hm)
  clear F90
  go_upto_region 23 with (go_at_call 76; refine (eqD_any F95.out F94.out HRL.out.1 HRL.out.2.2).mono ?_; rintro e w19 ⟨rfl, hb⟩; have Z18 : Aside0 (w18.heap.size ≤ w19.heap.size) := ⟨hb.size⟩; have F96 : Aside0 (Below w.heap.size w w19) := ⟨below_step F92.out hb⟩; clear F92; have F97 : Aside0 (w19.heap[gl]? = some (.cells #[.int .i64 n, .slice A l.length c] 25 (0, 0))) := ⟨blk_below F93.out hb⟩; clear F93; have F98 : Aside0 (Kd.S k48 48 w19 w.heap.size (fun k => w5.heap.size ≤ k ∧ k < w6.heap.size) (.slice A6 (run n lc ec).length c6) (run n lc ec)) := ⟨Kd.S_below F94.out hb⟩; clear F94; have F99 : Aside0 (Kd.S k48 48 w19 w.heap.size (fun k => w10.heap.size ≤ k ∧ k < w11.heap.size) (.slice A11 (run n lc ec).length c11) (run n lc ec)) := ⟨Kd.S_below F95.out hb⟩; clear F95; clear hb)
  have HS0 : Aside0 (w.heap.size ≤ w10.heap.size) := ⟨by have := Z0.out; have := Z1.out; have := Z2.out; have := Z3.out; have := Z4.out; have := Z5.out; have := Z6.out; have := Z7.out; have := Z8.out; omega⟩
  go_upto_region 25 with (go_at_call 77; refine (markD_any F96.out F99.out (fun k hq => Nat.le_trans HS0.out hq.1) HRL.out.1 HRL.out.2.1).mono ?_; rintro e w20 ⟨rfl, hm, hB, hk⟩; have hBB := hB; have Z19 : Aside0 (w19.heap.size ≤ w20.heap.size) := ⟨hk.1⟩; have F100 : Aside0 (Below w.heap.size w w20) := ⟨hB⟩; clear F96; have F101 : Aside0 (w20.heap[gl]? = some (.cells #[.int .i64 n, .slice A l.length c] 25 (0, 0))) := ⟨blk_kept F97.out hk (fun hq => by obtain ⟨hq1, hq2⟩ := hq; have := EG0.out; have := EG2.out; have := Z1.out; have := Z2.out; have := Z3.out; have := Z4.out; have := Z5.out; have := Z6.out; have := Z7.out; have := Z8.out; omega)⟩; clear F97; have F102 : Aside0 (Kd.S k48 48 w20 w.heap.size (fun k => w5.heap.size ≤ k ∧ k < w6.heap.size) (.slice A6 (run n lc ec).length c6) (run n lc ec)) := ⟨Kd.S_kept F98.out hk (fun k hq hr => by obtain ⟨hq1, hq2⟩ := hq; obtain ⟨hr1, hr2⟩ := hr; have := Z6.out; have := Z7.out; have := Z8.out; omega)⟩; clear F98; clear hk hB hBB; have F103 : Aside0 (Kd.S k48 48 w20 w.heap.size (fun k => w10.heap.size ≤ k ∧ k < w11.heap.size) (.slice A11 (run n lc ec).length c11) (markD (run n lc ec) 1)) := ⟨hm⟩; clear hm F99)
  go_upto_region 31 with (go_at_call 78; refine (heldD_any F103.out HRL.out.1 HRL.out.2.1).mono ?_; rintro e w21 ⟨rfl, hb⟩; have Z20 : Aside0 (w20.heap.size ≤ w21.heap.size) := ⟨hb.size⟩; have F104 : Aside0 (Below w.heap.size w w21) := ⟨below_step F100.out hb⟩; clear F100; have F105 : Aside0 (w21.heap[gl]? = some (.cells #[.int .i64 n, .slice A l.length c] 25 (0, 0))) := ⟨blk_below F101.out hb⟩; clear F101; have F106 : Aside0 (Kd.S k48 48 w21 w.heap.size (fun k => w5.heap.size ≤ k ∧ k < w6.heap.size) (.slice A6 (run n lc ec).length c6) (run n lc ec)) := ⟨Kd.S_below F102.out hb⟩; clear F102; have F107 : Aside0 (Kd.S k48 48 w21 w.heap.size (fun k => w10.heap.size ≤ k ∧ k < w11.heap.size) (.slice A11 (run n lc ec).length c11) (markD (run n lc ec) 1)) := ⟨Kd.S_below F103.out hb⟩; clear F103; clear hb)
  have kl0 : w21.cell? ⟨gl, 0, none⟩ = some (.int .i64 n) := (blk_cell F105.out 0).trans rfl
  have kl1 : w21.cell? ⟨gl, 1, none⟩ = some (.slice A l.length c) := (blk_cell F105.out 1).trans rfl
  go_upto_region 32 with (first | (go_at_call 24; refine (laws_toLayout.calls kTL n A c l n lc _ (Kd.C_below HR.out F104.out) HC.out ETL.out).mono ?_; rintro e w22 ⟨v, rfl, ho, hb⟩; have BSZ := (F104.out).size; have Z21 : Aside0 (w21.heap.size ≤ w22.heap.size) := ⟨hb.size⟩; have F108 : Aside0 (Below w.heap.size w w22) := ⟨below_step F104.out hb⟩; clear F104; have F109 : Aside0 (w22.heap[gl]? = some (.cells #[.int .i64 n, .slice A l.length c] 25 (0, 0))) := ⟨blk_below F105.out hb⟩; clear F105; have F110 : Aside0 (Kd.S k48 48 w22 w.heap.size (fun k => w5.heap.size ≤ k ∧ k < w6.heap.size) (.slice A6 (run n lc ec).length c6) (run n lc ec)) := ⟨Kd.S_below F106.out hb⟩; clear F106; have F111 : Aside0 (Kd.S k48 48 w22 w.heap.size (fun k => w10.heap.size ≤ k ∧ k < w11.heap.size) (.slice A11 (run n lc ec).length c11) (markD (run n lc ec) 1)) := ⟨Kd.S_below F107.out hb⟩; clear F107; obtain ⟨A22, c22, rfl⟩ := Kd.R_slice ho; have F112 : Aside0 (Kd.R k88 88 w22 w.heap.size (fun k => w21.heap.size ≤ k ∧ k < w22.heap.size) (.slice A22 lc.length c22) lc) := ⟨Kd.R_mono (Kd.R_lower (Kd.R_bound ho) BSZ) (fun k hq => ⟨hq.2.1, hq.2.2.1⟩)⟩; clear ho; clear hb BSZ) | (go_at_call 50; refine (laws_toEventS.calls kTE A1 c1 es ec _ (Kd.C_below HE.out F108.out) HEC.out ETE.out).mono ?_; rintro e w23 ⟨v, rfl, ho, hb⟩; have BSZ := (F108.out).size; have Z22 : Aside0 (w22.heap.size ≤ w23.heap.size) := ⟨hb.size⟩; have F113 : Aside0 (Below w.heap.size w w23) := ⟨below_step F108.out hb⟩; clear F108; have F114 : Aside0 (w23.heap[gl]? = some (.cells #[.int .i64 n, .slice A l.length c] 25 (0, 0))) := ⟨blk_below F109.out hb⟩; clear F109; have F115 : Aside0 (Kd.S k48 48 w23 w.heap.size (fun k => w5.heap.size ≤ k ∧ k < w6.heap.size) (.slice A6 (run n lc ec).length c6) (run n lc ec)) := ⟨Kd.S_below F110.out hb⟩; clear F110; have F116 : Aside0 (Kd.S k48 48 w23 w.heap.size (fun k => w10.heap.size ≤ k ∧ k < w11.heap.size) (.slice A11 (run n lc ec).length c11) (markD (run n lc ec) 1)) := ⟨Kd.S_below F111.out hb⟩; clear F111; have F117 : Aside0 (Kd.R k88 88 w23 w.heap.size (fun k => w21.heap.size ≤ k ∧ k < w22.heap.size) (.slice A22 lc.length c22) lc) := ⟨Kd.R_below F112.out hb⟩; clear F112; obtain ⟨A23, c23, rfl⟩ := Kd.R_slice ho; have F118 : Aside0 (Kd.R k56 56 w23 w.heap.size (fun k => w22.heap.size ≤ k ∧ k < w23.heap.size) (.slice A23 ec.length c23) ec) := ⟨Kd.R_mono (Kd.R_lower (Kd.R_bound ho) BSZ) (fun k hq => ⟨hq.2.1, hq.2.2.1⟩)⟩; clear ho; clear hb BSZ) | (go_at_call 29; refine (run_is n _ _ lc _ _ ec _ (Kd.R_reads' F117.out).2.2 (Kd.R_reads' F117.out).2.1 (Kd.R_reads' F118.out).2.2 (Kd.R_reads' F118.out).2.1).mono ?_; rintro e w24 ⟨v, rfl, ho, hb⟩; have BSZ := (F113.out).size; have Z23 : Aside0 (w23.heap.size ≤ w24.heap.size) := ⟨hb.size⟩; have F119 : Aside0 (Below w.heap.size w w24) := ⟨below_step F113.out hb⟩; clear F113; have F120 : Aside0 (w24.heap[gl]? = some (.cells #[.int .i64 n, .slice A l.length c] 25 (0, 0))) := ⟨blk_below F114.out hb⟩; clear F114; have F121 : Aside0 (Kd.S k48 48 w24 w.heap.size (fun k => w5.heap.size ≤ k ∧ k < w6.heap.size) (.slice A6 (run n lc ec).length c6) (run n lc ec)) := ⟨Kd.S_below F115.out hb⟩; clear F115; have F122 : Aside0 (Kd.S k48 48 w24 w.heap.size (fun k => w10.heap.size ≤ k ∧ k < w11.heap.size) (.slice A11 (run n lc ec).length c11) (markD (run n lc ec) 1)) := ⟨Kd.S_below F116.out hb⟩; clear F116; have F123 : Aside0 (Kd.R k88 88 w24 w.heap.size (fun k => w21.heap.size ≤ k ∧ k < w22.heap.size) (.slice A22 lc.length c22) lc) := ⟨Kd.R_below F117.out hb⟩; clear F117; have F124 : Aside0 (Kd.R k56 56 w24 w.heap.size (fun k => w22.heap.size ≤ k ∧ k < w23.heap.size) (.slice A23 ec.length c23) ec) := ⟨Kd.R_below F118.out hb⟩; clear F118; obtain ⟨A24, c24, rfl⟩ := Kd.S_slice ho; have F125 : Aside0 (Kd.S k48 48 w24 w.heap.size (fun k => w23.heap.size ≤ k ∧ k < w24.heap.size) (.slice A24 (run n lc ec).length c24) (run n lc ec)) := ⟨Kd.S_mono (Kd.S_lower (Kd.S_bound ho) BSZ) (fun k hq => ⟨hq.2.1, hq.2.2.1⟩)⟩; clear ho; clear hb BSZ))
  clear kl0 kl1
  clear F123
  clear F124
  go_upto_region 34 with (go_at_call 76; refine (eqD_any F125.out F121.out HRL.out.1 HRL.out.2.2).mono ?_; rintro e w25 ⟨rfl, hb⟩; have Z24 : Aside0 (w24.heap.size ≤ w25.heap.size) := ⟨hb.size⟩; have F126 : Aside0 (Below w.heap.size w w25) := ⟨below_step F119.out hb⟩; clear F119; have F127 : Aside0 (w25.heap[gl]? = some (.cells #[.int .i64 n, .slice A l.length c] 25 (0, 0))) := ⟨blk_below F120.out hb⟩; clear F120; have F128 : Aside0 (Kd.S k48 48 w25 w.heap.size (fun k => w5.heap.size ≤ k ∧ k < w6.heap.size) (.slice A6 (run n lc ec).length c6) (run n lc ec)) := ⟨Kd.S_below F121.out hb⟩; clear F121; have F129 : Aside0 (Kd.S k48 48 w25 w.heap.size (fun k => w10.heap.size ≤ k ∧ k < w11.heap.size) (.slice A11 (run n lc ec).length c11) (markD (run n lc ec) 1)) := ⟨Kd.S_below F122.out hb⟩; clear F122; have F130 : Aside0 (Kd.S k48 48 w25 w.heap.size (fun k => w23.heap.size ≤ k ∧ k < w24.heap.size) (.slice A24 (run n lc ec).length c24) (run n lc ec)) := ⟨Kd.S_below F125.out hb⟩; clear F125; clear hb)
  go_wp2_with (go_at_call 78; refine (heldD_any F129.out HRL.out.1 HRL.out.2.1).mono ?_; rintro e w26 ⟨rfl, hb⟩; have Z25 : Aside0 (w25.heap.size ≤ w26.heap.size) := ⟨hb.size⟩; have F131 : Aside0 (Below w.heap.size w w26) := ⟨below_step F126.out hb⟩; clear F126; have F132 : Aside0 (w26.heap[gl]? = some (.cells #[.int .i64 n, .slice A l.length c] 25 (0, 0))) := ⟨blk_below F127.out hb⟩; clear F127; have F133 : Aside0 (Kd.S k48 48 w26 w.heap.size (fun k => w5.heap.size ≤ k ∧ k < w6.heap.size) (.slice A6 (run n lc ec).length c6) (run n lc ec)) := ⟨Kd.S_below F128.out hb⟩; clear F128; have F134 : Aside0 (Kd.S k48 48 w26 w.heap.size (fun k => w10.heap.size ≤ k ∧ k < w11.heap.size) (.slice A11 (run n lc ec).length c11) (markD (run n lc ec) 1)) := ⟨Kd.S_below F129.out hb⟩; clear F129; have F135 : Aside0 (Kd.S k48 48 w26 w.heap.size (fun k => w23.heap.size ≤ k ∧ k < w24.heap.size) (.slice A24 (run n lc ec).length c24) (run n lc ec)) := ⟨Kd.S_below F130.out hb⟩; clear F130; clear hb)
  go_ret
  exact ⟨rfl, F131.out⟩
theorem walk (n : Int) (A : Option Addr) (c : Nat) (l : List S160) (A1 : Option Addr) (c1 : Nat) (es : List S54) (w : World) (hr : Kd.C k160 w A l.length l) (hc : l.length ≤ c) (hr1 : Kd.C k54 w A1 es.length es) (hc1 : es.length ≤ c1) :
    Calls Try.prog 19 #[.agg #[.int .i64 n, .slice A l.length c], .slice A1 es.length c1] w fun e w' => e = .returned (.bool true) ∧ Below w.heap.size w w' := by
  have b1 := hr.2.1
  have b2 := hr1.2.1
  have s1 := szLayout_eq n l 1048576 (by omega) (by omega) b1
  by_cases h : (1048576 : Int) < l.length
  · rw [if_pos h] at s1
    exact too1 n A c l A1 c1 es w hr hc hr1 hc1 _ s1 (by omega)
  · rw [if_neg h] at s1
    have s2 := szEventS_eq es (1048576 - l.length) (by omega) (by omega) b2
    by_cases h2 : (1048576 : Int) - l.length < es.length
    · rw [if_pos h2] at s2
      exact too2 n A c l A1 c1 es w hr hc hr1 hc1 _ _ s1 (by omega) s2 (by omega)
    · rw [if_neg h2] at s2
      exact whole n A c l A1 c1 es w hr hc hr1 hc1 _ _ s1 (by omega) s2 (by omega) (l.map cvC) (es.map cvE) (by rw [List.length_map]; omega) (by rw [List.length_map]; omega) (toLayout_ev n l (by omega)) (toEventS_ev es (by omega))
end Go.Proofs.Ytpdnabhpkdchjaa.WalkFnExactRun
namespace Go.Proofs.Ytpdnabhpkdchjaa.fnExactRun
open Go.ChangeShapes Go.WideShapes Go.ChangeAt Go.RowKit Go.Proofs.Ytpdnabhpkdchjaa.Open Go.Proofs.Ytpdnabhpkdchjaa.P
set_option linter.unusedVariables false
set_option maxRecDepth 100000 in
theorem lifted (os : Os) (started : os.Started) (H : Type) (enc : TypeId × Value → H) :
    ReturnsInHanded {} Try.checked os 19 .any (Rows.fnExactRunSpec.pre6 enc Try.prog Try.f19 Rows.fnExactRunRow.domain false) (Rows.fnExactRunSpec.post enc Try.prog Try.f19 false true false false) := by
  refine returnsInHanded_of_change_sized (C := Try.checked) Facts.own started (by kernel_rfl) Try.func19
    (ChangeSpec.witness6 (enc := enc) (C := Try.checked) false ⟨#[], #[.agg #[.int .i64 0, .slice none 0 0], .slice none 0 0], []⟩ 8 (by kernel_rfl) (by kernel_rfl) (by kernel_rfl) (by kernel_rfl)) ?_
  intro W base args ds gs before hval0 hW hcnd hsz0 _
  have hval : ∀ (j : Nat) t v, Try.f19.params[j]? = some t → args[j]? = some v → Value.okWide Try.prog W .any base t v := hval0
  have hW' := hW
  obtain ⟨p, q, hA0, hV, rfl, hfz, hnd⟩ := hW
  have hA : DataW.TrodAll enc Try.prog W 0 (fun _ => true) true Try.f19.params.toList args.toList ds p := hA0
  rw [Try.params19] at hA hval
  obtain ⟨v0, vs0, d0, ds0, p0, q0, hargs, rfl, rfl, h0, r0⟩ := trodAll_cons hA
  obtain ⟨v1, vs1, d1, ds1, p1, q1, rfl, rfl, rfl, h1, r1⟩ := trodAll_cons r0
  obtain ⟨rfl, rfl, rfl⟩ := trodAll_nil r1
  obtain rfl : args = #[v0, v1] := by cases args; simp_all
  obtain ⟨rfl, rfl⟩ := trodVars_none hV
  have k0 := h0
  have lt0 : ∀ x ∈ p0, x.block < W.heap.size := by obtain ⟨m, hm⟩ := k0; exact DataW.trod_lt m _ _ _ hm
  obtain ⟨n0, A0, c0, l0, rfl, hr0, hc0⟩ := arg_layout (hval 0 25 v0 rfl rfl) h0
  have k1 := h1
  have lt1 : ∀ x ∈ p1, x.block < W.heap.size := by obtain ⟨m, hm⟩ := k1; exact DataW.trod_lt m _ _ _ hm
  obtain ⟨A1, c1, l1, rfl, hr1, hc1⟩ := arg_slice Try.underlying67 oEvents (hval 1 67 v1 rfl rfl) h1
  clear hA0 hval0 hsz0
  refine (WalkFnExactRun.walk n0 A0 c0 l0 A1 c1 l1 W hr0 hc0 hr1 hc1).mono fun e W' ⟨he, bel⟩ => ?_
  subst he
  exact ⟨_, rfl, _, _, _, [], _, [], hW', trodAll_mk1 (shut_bool Try.underlying4 _), (trodAll_cons_mk (Below.trod Facts.laidOut (by kernel_rfl) (of_decide_eq_true (by kernel_rfl)) k0 bel lt0) (trodAll_cons_mk (Below.trod Facts.laidOut (by kernel_rfl) (of_decide_eq_true (by kernel_rfl)) k1 bel lt1) trodAll_mk0)), rfl, bel.frame _, fun h => by cases h⟩
theorem k10 : (Rows.fnExactRunRow.inPlace == Try.prog.inPlace 19) = true := by kernel_rfl
theorem k11 : (Rows.fnExactRunRow.unfollowed == Try.prog.unfollowed 19) = true := by kernel_rfl
theorem k12 : (Rows.fnExactRunRow.recurses == Try.prog.recurses 19) = true := by kernel_rfl
theorem k13 : (Rows.fnExactRunRow.named == Try.prog.varsNamed 19) = true := by kernel_rfl
theorem over : Rows.fnExactRunRow.holds Try.pinned (OpenSpec.ofChange Rows.fnExactRunSpec) :=
  OpenClaim.holds_of_wide 19 Try.f19 rfl rfl rfl rfl rfl rfl rfl ⟨rfl, rfl, rfl, rfl, rfl⟩ rfl rfl rfl rfl rfl (by kernel_rfl) Try.func19
    (joined_of 19 Try.f19 Rows.fnExactRunSpec Rows.fnExactRunRow (by kernel_rfl) (by kernel_rfl) (by kernel_rfl) rfl rfl Facts.stopKnobs k10 k11 k12 k13 (by kernel_rfl) (by kernel_rfl) (by kernel_rfl) (by kernel_rfl) (by kernel_rfl) (by kernel_rfl) (by kernel_rfl) (by kernel_rfl) (by kernel_rfl) rfl rfl rfl rfl rfl rfl (by kernel_rfl) (by kernel_rfl) (by kernel_rfl))
    (of_decide_eq_true (by kernel_rfl)) (by unfold Func.isWrapper; rw [if_neg (by decide +kernel)]; exact ⟨rfl, rfl⟩)
    (fun os started H enc _ => lifted os started H enc)
theorem proved : Rows.FnExactRunSaid := over
end Go.Proofs.Ytpdnabhpkdchjaa.fnExactRun
namespace Go.Proofs.Ytpdnabhpkdchjaa
theorem fnExactRun_holds : Rows.FnExactRunSaid := fnExactRun.proved
#print axioms fnExactRun_holds
end Go.Proofs.Ytpdnabhpkdchjaa
