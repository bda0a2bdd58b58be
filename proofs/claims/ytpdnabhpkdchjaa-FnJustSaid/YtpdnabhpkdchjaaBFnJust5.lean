/- The statement FnJust holds of the given program, for every argument; there are no conditions. (Part 5 of 5.) -/
import Derived.Test.YtpdnabhpkdchjaaBFnJust4
import Derived.Deep.RegionWith
import Derived.Deep.DrawnRows
import Derived.ShutString
namespace Go.Proofs.Ytpdnabhpkdchjaa.P
open Go.RowKit Go.Proofs.YtpdnabhpkdchjaaW.PrintWords Go.Proofs.YtpdnabhpkdchjaaW.PrintLast Go.Proofs.YtpdnabhpkdchjaaW.PrintMore
set_option linter.unusedVariables false
def runStep (n : Int) (l : List S88) (s : S46) (e : S56) : S48 :=
  if eventOk n l e.f0 e.f1 e.f2 = true then ⟨doCode l s.f1 s.f2 e.f0 e.f1, ⟨true, doSecs l s.f1 s.f2 e.f0 e.f1 e.f2, doDead l s.f1 s.f2 e.f0 e.f1⟩⟩ else ⟨1, ⟨true, s.f1, s.f2⟩⟩
def st0 (n : Int) (l : List S88) : S46 := ⟨true, List.replicate n.toNat z50, List.replicate l.length false⟩
def stAt (n : Int) (l : List S88) (es : List S56) (k : Nat) : S46 := (es.take k).foldl (fun s e => (runStep n l s e).f1) (st0 n l)
def runTo (n : Int) (l : List S88) (es : List S56) (k : Nat) : List S48 := (List.range k).map fun j => runStep n l (stAt n l es j) (rd_T56 es (j : Int))
def run (n : Int) (l : List S88) (es : List S56) : List S48 := if layoutOk n l = 0 ∧ es.length ≤ 2000 then runTo n l es es.length else []
theorem runTo_length (n : Int) (l : List S88) (es : List S56) (k : Nat) : (runTo n l es k).length = k := by simp [runTo]
theorem runTo_succ (n : Int) (l : List S88) (es : List S56) (k : Nat) : runTo n l es (k + 1) = runTo n l es k ++ [runStep n l (stAt n l es k) (rd_T56 es (k : Int))] := by
  simp [runTo, List.range_succ]
theorem stAt_succ (n : Int) (l : List S88) (es : List S56) (k : Nat) (h : k < es.length) : stAt n l es (k + 1) = (runStep n l (stAt n l es k) (rd_T56 es (k : Int))).f1 := by
  rw [stAt, List.take_succ_eq_append_getElem h, List.foldl_append, rd56 es k h]
  rfl
theorem stAt_zero (n : Int) (l : List S88) (es : List S56) : stAt n l es 0 = st0 n l := by simp [stAt]
theorem runStep_len (n : Int) (l : List S88) (s : S46) (e : S56) : (runStep n l s e).f1.f1.length = s.f1.length ∧ (runStep n l s e).f1.f2.length = s.f2.length ∧ (runStep n l s e).f1.f0 = true := by
  unfold runStep
  split
  · exact ⟨doSecs_length _ _ _ _ _ _, doDead_length _ _ _ _ _, rfl⟩
  · exact ⟨rfl, rfl, rfl⟩
theorem stAt_len (n : Int) (l : List S88) (es : List S56) (k : Nat) : (stAt n l es k).f1.length = n.toNat ∧ (stAt n l es k).f2.length = l.length ∧ (stAt n l es k).f0 = true := by
  unfold stAt
  have h : ∀ (es : List S56) (s : S46), s.f1.length = n.toNat ∧ s.f2.length = l.length ∧ s.f0 = true → (es.foldl (fun s e => (runStep n l s e).f1) s).f1.length = n.toNat ∧ (es.foldl (fun s e => (runStep n l s e).f1) s).f2.length = l.length ∧ (es.foldl (fun s e => (runStep n l s e).f1) s).f0 = true := by
    intro es
    induction es with
    | nil => intro s h; exact h
    | cons e es ih =>
      intro s h
      have := runStep_len n l s e
      exact ih _ ⟨by rw [this.1]; exact h.1, by rw [this.2.1]; exact h.2.1, this.2.2⟩
  exact h _ _ ⟨by simp [st0], by simp [st0], rfl⟩
def secFine (l : List S88) (dd : List Bool) (s : Int) (x : S50) : Bool := secRange x && secRest (deadAt l dd s) x
theorem fine_iff (l : List S88) (dd : List Bool) (s : Int) (x : S50) : secFine l dd s x = true ↔ (-1000000 ≤ x.f1 ∧ x.f1 ≤ 1000000 ∧ -1 ≤ x.f4 ∧ x.f4 ≤ 1) ∧ ((x.f1 < 0 ∨ deadAt l dd s = true) → x.f2 = true) ∧ (x.f3 = true ∧ x.f1 = 0 ∧ x.f4 = -1 → x.f2 = true) := by
  simp only [secFine, secRange, secRest, Bool.and_eq_true, decide_eq_true_eq, Bool.not_eq_true', Bool.and_eq_false_iff, Bool.or_eq_false_iff, Bool.not_eq_false', decide_eq_false_iff_not]
  cases x.f2 <;> cases x.f3 <;> cases deadAt l dd s <;> simp <;> omega
theorem ok_iff (l : List S88) (dd : List Bool) (s : Int) (x : S50) : secOk l dd s x = true ↔ x.f0 = toldC l dd s x ∧ secFine l dd s x = true := by
  simp only [secOk, secFine, Bool.and_eq_true, decide_eq_true_eq]
  exact ⟨fun h => ⟨h.1.2, h.1.1, h.2⟩, fun h => ⟨⟨h.2.1, h.1⟩, h.2.2⟩⟩
theorem tell_ok {l : List S88} {dd : List Bool} {i : Nat} {x : S50} (h : secFine l dd (i : Int) x = true) : secOk l dd (i : Int) (tellS l dd i x) = true := by
  rw [ok_iff]
  exact ⟨rfl, h⟩
theorem retold_get (l : List S88) (dd : List Bool) (ss : List S50) (i : Nat) (h : i < ss.length) : rd_T50 (retold l dd ss) (i : Int) = tellS l dd i (rd_T50 ss (i : Int)) := by
  simp [rd_T50, retold, retoldTo, h]
theorem retold_fine {l : List S88} {dd : List Bool} {ss : List S50} (h : ∀ j, j < ss.length → secFine l dd (j : Int) (rd_T50 ss (j : Int)) = true) : ∀ j, j < (retold l dd ss).length → secOk l dd (j : Int) (rd_T50 (retold l dd ss) (j : Int)) = true := by
  intro j hj
  rw [retold_length] at hj
  rw [retold_get l dd ss j hj]
  exact tell_ok (h j hj)
theorem count_fine {l : List S88} {dd : List Bool} {s : Int} {x : S50} {b : Int} (hb : b = 1 ∨ b = -1) (h : secFine l dd s x = true) : secFine l dd s (countS x b) = true := by
  rw [fine_iff] at h ⊢
  obtain ⟨⟨h1, h2, h3, h4⟩, h5, h6⟩ := h
  have hc : -1000000 ≤ cntN x b ∧ cntN x b ≤ 1000000 := by
    unfold cntN
    split
    · rename_i h; exact h
    · exact ⟨h1, h2⟩
  simp only [countS]
  refine ⟨⟨hc.1, hc.2, by omega, by omega⟩, fun h => ?_, fun h => ?_⟩
  · rcases h with h | h
    · rw [decide_eq_true h, Bool.or_true]
    · rw [h5 (.inr h), Bool.true_or]
  · obtain ⟨k1, k2, k3⟩ := h
    rw [k2, k3] at k1
    simp at k1
theorem addS_get (ss : List S50) (s b : Int) (j : Nat) (hj : j < ss.length) : rd_T50 (addS ss s b) (j : Int) = if s = (j : Int) then countS (rd_T50 ss (j : Int)) b else rd_T50 ss (j : Int) := by
  unfold addS
  by_cases h : s < 0
  · rw [if_pos h, if_neg (by omega)]
  · rw [if_neg h]
    by_cases e : s = (j : Int)
    · subst e
      simp [rd_T50, hj]
    · have : s.toNat ≠ j := by omega
      rw [if_neg e]
      simp [rd_T50, List.getElem?_set_ne this]
theorem loseAt_get (ss : List S50) (s : Int) (j : Nat) (hj : j < ss.length) : rd_T50 (loseAt ss s) (j : Int) = if s = (j : Int) then loseS (rd_T50 ss (j : Int)) else rd_T50 ss (j : Int) := by
  unfold loseAt
  by_cases h : s < 0
  · rw [if_pos h, if_neg (by omega)]
  · rw [if_neg h]
    by_cases e : s = (j : Int)
    · subst e
      simp [rd_T50, hj]
    · have : s.toNat ≠ j := by omega
      rw [if_neg e]
      simp [rd_T50, List.getElem?_set_ne this]
theorem add_fine {l : List S88} {dd : List Bool} {ss : List S50} {s b : Int} (hb : b = 1 ∨ b = -1) (h : ∀ j, j < ss.length → secFine l dd (j : Int) (rd_T50 ss (j : Int)) = true) : ∀ j, j < (addS ss s b).length → secFine l dd (j : Int) (rd_T50 (addS ss s b) (j : Int)) = true := by
  intro j hj
  rw [addS_length] at hj
  rw [addS_get ss s b j hj]
  split
  · exact count_fine hb (h j hj)
  · exact h j hj
theorem deadFrom_mono {l : List S88} {dd dd' : List Bool} {s : Int} (h : ∀ i : Nat, rdOf false dd' (i : Int) = true → hits s (rd_T88 l (i : Int)) = true → rdOf false dd (i : Int) = true) : ∀ d i, deadFrom l dd' s d i = true → deadFrom l dd s d i = true := by
  intro d
  induction d with
  | zero => intro i hd; exact hd
  | succ d ih =>
    intro i hd
    simp only [deadFrom, Bool.or_eq_true, Bool.and_eq_true] at hd ⊢
    rcases hd with ⟨h1, h2⟩ | h1
    · exact .inl ⟨h i h1 h2, h2⟩
    · exact .inr (ih _ h1)
theorem rdOf_set (dd : List Bool) (k i : Nat) (b : Bool) : rdOf false (dd.set k b) (i : Int) = if k = i ∧ i < dd.length then b else rdOf false dd (i : Int) := by
  unfold rdOf
  simp only [Int.toNat_natCast, List.getD_eq_getElem?_getD, List.getElem?_set]
  by_cases e : k = i
  · subst e
    by_cases h : k < dd.length
    · simp [h]
    · simp [h]
  · simp [e]
theorem dead_less {l : List S88} {dd : List Bool} {s : Int} {k : Nat} (h : deadAt l (dd.set k false) s = true) : deadAt l dd s = true := by
  refine deadFrom_mono (fun i h1 _ => ?_) _ _ h
  rw [rdOf_set] at h1
  split at h1
  · cases h1
  · exact h1
theorem dead_more {l : List S88} {dd : List Bool} {s : Int} {k : Nat} (h : deadAt l (dd.set k true) s = true) (hn : hits s (rd_T88 l (k : Int)) = false) : deadAt l dd s = true := by
  refine deadFrom_mono (fun i h1 h2 => ?_) _ _ h
  rw [rdOf_set] at h1
  split at h1
  · rename_i e
    rw [← e.1, hn] at h2
    cases h2
  · exact h1
theorem lose_fine {l : List S88} {dd dd' : List Bool} {s : Int} {x : S50} (h : secFine l dd s x = true) : secFine l dd' s (loseS x) = true := by
  rw [fine_iff] at h ⊢
  exact ⟨h.1, fun _ => rfl, fun _ => rfl⟩
theorem fine_dead {l : List S88} {dd dd' : List Bool} {s : Int} {x : S50} (hd : deadAt l dd' s = true → deadAt l dd s = true) (h : secFine l dd s x = true) : secFine l dd' s x = true := by
  rw [fine_iff] at h ⊢
  exact ⟨h.1, fun k => h.2.1 (k.imp id hd), h.2.2⟩
theorem do_fine {n : Int} {l : List S88} {ss : List S50} {dd : List Bool} {op of dir : Int} (hl : layoutOk n l = 0) (hd : dd.length = l.length) (h : ∀ j, j < ss.length → secFine l dd (j : Int) (rd_T50 ss (j : Int)) = true) (hev : eventOk n l op of dir = true) (hc : doCode l ss dd op of = 0) :
    ∀ j, j < (midSecs l ss op of dir).length → secFine l (midDead dd op of) (j : Int) (rd_T50 (midSecs l ss op of dir) (j : Int)) = true := by
  have key : ((op = 1 ∨ op = 2) ∧ 0 ≤ of ∧ of < (l.length : Int)) ∨ ((op = 3 ∨ op = 4) ∧ 0 ≤ of ∧ of < (l.length : Int)) ∨ (op = 5 ∧ 0 ≤ of ∧ of < n) := by
    unfold eventOk at hev
    rw [if_pos hl] at hev
    split at hev
    · rename_i h1; simp at hev; exact .inl ⟨h1, hev.1.1, hev.1.2⟩
    · split at hev
      · rename_i h1; simp at hev; exact .inr (.inl ⟨h1, hev.1.1, hev.1.2⟩)
      · split at hev
        · rename_i h1; simp at hev; exact .inr (.inr ⟨h1, hev.1.1, hev.1.2⟩)
        · cases hev
  rcases key with ⟨rfl | rfl, o0, o1⟩ | ⟨rfl | rfl, o0, o1⟩ | ⟨rfl, o0, o1⟩
  · have e1 : midSecs l ss 1 of dir = addS (addS ss (if dir = -1 then (rd_T88 l of).f1 else (rd_T88 l of).f0) (-1)) (if dir = -1 then (rd_T88 l of).f0 else (rd_T88 l of).f1) 1 := by simp [midSecs]
    have e2 : midDead dd 1 of = dd := by simp [midDead]
    rw [e1, e2]
    exact add_fine (.inl rfl) (add_fine (.inr rfl) h)
  · have e1 : midSecs l ss 2 of dir = addS ss (if dir = -1 then (rd_T88 l of).f0 else (rd_T88 l of).f1) 1 := by simp [midSecs]
    have e2 : midDead dd 2 of = dd := by simp [midDead]
    rw [e1, e2]
    exact add_fine (.inl rfl) h
  · have e1 : midSecs l ss 3 of dir = loseAt (loseAt ss (rd_T88 l of).f0) (rd_T88 l of).f1 := by simp [midSecs]
    have e2 : midDead dd 3 of = dd.set of.toNat true := by simp [midDead]
    rw [e1, e2]
    intro j hj
    rw [loseAt_length, loseAt_length] at hj
    rw [loseAt_get _ _ _ (by rw [loseAt_length]; exact hj), loseAt_get _ _ _ hj]
    by_cases f1 : (rd_T88 l of).f1 = (j : Int)
    · rw [if_pos f1]
      split
      · exact lose_fine (lose_fine (dd' := dd) (h j hj))
      · exact lose_fine (h j hj)
    · rw [if_neg f1]
      by_cases f0 : (rd_T88 l of).f0 = (j : Int)
      · rw [if_pos f0]; exact lose_fine (h j hj)
      · rw [if_neg f0]
        refine fine_dead (fun hx => dead_more hx ?_) (h j hj)
        rw [show ((of.toNat : Nat) : Int) = of by omega]
        simp [hits, f0, f1]
  · have e1 : midSecs l ss 4 of dir = ss := by simp [midSecs]
    have e2 : midDead dd 4 of = dd.set of.toNat false := by simp [midDead]
    rw [e1, e2]
    intro j hj
    exact fine_dead dead_less (h j hj)
  · have e1 : midSecs l ss 5 of dir = ss.set of.toNat ⟨0, 0, false, true, 0⟩ := by simp [midSecs]
    have e2 : midDead dd 5 of = dd := by simp [midDead]
    rw [e1, e2]
    intro j hj
    rw [List.length_set] at hj
    by_cases e : of.toNat = j
    · have hdd : deadAt l dd of = false := by
        cases hx : deadAt l dd of with
        | false => rfl
        | true =>
          rw [doCode, if_neg (by decide), if_pos rfl, if_pos hx] at hc
          exact absurd hc (by decide)
      have e3 : ((j : Nat) : Int) = of := by omega
      rw [show rd_T50 (ss.set of.toNat ⟨0, 0, false, true, 0⟩) (j : Int) = ⟨0, 0, false, true, 0⟩ by subst e; rw [rd_T50, Int.toNat_natCast]; simp [hj], e3, fine_iff]
      refine ⟨by simp, fun h => ?_, fun h => by simp at h⟩
      rw [hdd] at h
      simp at h
    · rw [show rd_T50 (ss.set of.toNat ⟨0, 0, false, true, 0⟩) (j : Int) = rd_T50 ss (j : Int) by simp [rd_T50, List.getElem?_set_ne e]]
      exact h j hj
theorem do_ok {n : Int} {l : List S88} {ss : List S50} {dd : List Bool} {op of dir : Int} (hl : layoutOk n l = 0) (hd : dd.length = l.length) (h : ∀ j, j < ss.length → secOk l dd (j : Int) (rd_T50 ss (j : Int)) = true) (hev : eventOk n l op of dir = true) :
    ∀ j, j < (doSecs l ss dd op of dir).length → secOk l (doDead l ss dd op of) (j : Int) (rd_T50 (doSecs l ss dd op of dir) (j : Int)) = true := by
  by_cases hc : doCode l ss dd op of = 0
  · unfold doSecs doDead
    rw [if_pos hc, if_pos hc]
    exact retold_fine (do_fine hl hd (fun j hj => ((ok_iff _ _ _ _).1 (h j hj)).2) hev hc)
  · unfold doSecs doDead
    rw [if_neg hc, if_neg hc]
    exact h
theorem step_ok {n : Int} {l : List S88} {s : S46} {e : S56} (h : stateOk n l s.f0 s.f1 s.f2 = true) : stateOk n l (runStep n l s e).f1.f0 (runStep n l s e).f1.f1 (runStep n l s e).f1.f2 = true := by
  obtain ⟨hl, ho, hn, hd, hsec⟩ := stateOk_of h
  unfold runStep
  split
  · rename_i hev
    exact stateOk_mk hl rfl (by rw [doSecs_length]; exact hn) (by rw [doDead_length]; exact hd) (do_ok hl hd hsec hev)
  · exact stateOk_mk hl rfl hn hd hsec
theorem anyFalse (l : List S88) (m : Nat) (s : Int) : deadAt l (List.replicate m false) s = false := by
  have h : ∀ d i, deadFrom l (List.replicate m false) s d i = false := by
    intro d
    induction d with
    | zero => intro i; rfl
    | succ d ih =>
      intro i
      have hr : rdOf false (List.replicate m false) (i : Int) = false := by
        simp only [rdOf, List.getD_eq_getElem?_getD, List.getElem?_replicate]; split <;> rfl
      simp only [deadFrom, hr, ih, Bool.false_and, Bool.or_self]
  exact h _ _
theorem st0_ok {n : Int} {l : List S88} (hl : layoutOk n l = 0) : stateOk n l (st0 n l).f0 (st0 n l).f1 (st0 n l).f2 = true := by
  have hn := lay_n hl
  refine stateOk_mk hl rfl (by simp [st0]; omega) (by simp [st0]) (fun j hj => ?_)
  have hz : rd_T50 (List.replicate n.toNat z50) (j : Int) = z50 := by
    simp only [rd_T50, List.getD_eq_getElem?_getD, List.getElem?_replicate]; split <;> rfl
  show secOk l (List.replicate l.length false) (j : Int) (rd_T50 (List.replicate n.toNat z50) (j : Int)) = true
  rw [hz, ok_iff, fine_iff, toldC, anyFalse]
  simp [z50]
theorem stAt_ok {n : Int} {l : List S88} (hl : layoutOk n l = 0) (es : List S56) (k : Nat) : stateOk n l (stAt n l es k).f0 (stAt n l es k).f1 (stAt n l es k).f2 = true := by
  unfold stAt
  have h : ∀ (es : List S56) (s : S46), stateOk n l s.f0 s.f1 s.f2 = true → stateOk n l (es.foldl (fun s e => (runStep n l s e).f1) s).f0 (es.foldl (fun s e => (runStep n l s e).f1) s).f1 (es.foldl (fun s e => (runStep n l s e).f1) s).f2 = true := by
    intro es
    induction es with
    | nil => intro s h; exact h
    | cons e es ih => intro s h; exact ih _ (step_ok h)
  exact h _ _ (st0_ok hl)
end Go.Proofs.Ytpdnabhpkdchjaa.P
namespace Go.Proofs.Ytpdnabhpkdchjaa.P
open Go.RowKit Go.Proofs.YtpdnabhpkdchjaaW.PrintWords Go.Proofs.YtpdnabhpkdchjaaW.PrintLast
set_option linter.unusedVariables false
set_option linter.unusedSimpArgs false
def nonneg (row : List Int) : Bool := row.all fun x => decide (0 ≤ x)
def honestAt (n : Int) (l : List S88) (es : List S56) (k : Nat) : Bool :=
  eventOk n l (rd_T56 es k).f0 (rd_T56 es k).f1 (rd_T56 es k).f2 && !(decide ((rd_T56 es k).f0 = 5) && !(decide (rd (truthAt n l es (k + 1)) (rd_T56 es k).f1 = 0))) && nonneg (truthAt n l es (k + 1))
def honestFrom (n : Int) (l : List S88) (es : List S56) : Nat → Nat → Bool
  | 0, _ => true
  | d + 1, i => honestAt n l es i && honestFrom n l es d (i + 1)
def honest (n : Int) (l : List S88) (es : List S56) : Bool := decide (layoutOk n l = 0) && decide (es.length ≤ 2000) && honestFrom n l es es.length 0
section
variable {n : Int} {l : List S88} {es : List S56}
theorem truth_good (hl : layoutOk n l = 0) (he : es.length ≤ 2000) : truth n l es = (List.range es.length).map fun k => truthAt n l es (k + 1) := by rw [truth, if_pos ⟨hl, he⟩]
theorem truth_len (hl : layoutOk n l = 0) (he : es.length ≤ 2000) : (truth n l es).length = es.length := by rw [truth_good hl he]; simp
theorem truth_rd (hl : layoutOk n l = 0) (he : es.length ≤ 2000) (i : Nat) (hi : i < es.length) : rd_L12 (truth n l es) (i : Int) = truthAt n l es (i + 1) := by
  rw [truth_good hl he]
  simp [rd_L12, hi]
theorem rd_all {row : List Int} (h : nonneg row = true) (j : Nat) (hj : j < row.length) : ¬ rd row (j : Int) < 0 := by
  have h1 := List.all_eq_true.1 h row[j] (List.getElem_mem hj)
  have h2 : rd row (j : Int) = row[j] := by simp [rd, hj]
  rw [h2]
  simpa using h1
end
end Go.Proofs.Ytpdnabhpkdchjaa.P
namespace Go.Proofs.Ytpdnabhpkdchjaa.P
open Go.RowKit Go.Proofs.YtpdnabhpkdchjaaW.PrintWords Go.Proofs.YtpdnabhpkdchjaaW.PrintLast Go.Proofs.YtpdnabhpkdchjaaW.PrintMore
set_option linter.unusedVariables false
set_option linter.unusedSimpArgs false
section
variable {code : List Int} {n : Int} {l : List S88} {ho : Bool}
theorem truthAt_app (es : List S56) (e : S56) (k : Nat) (h : k ≤ es.length) : truthAt n l (es ++ [e]) k = truthAt n l es k := by
  rw [truthAt, truthAt, List.take_append_of_le_length h]
theorem truthAt_last (es : List S56) (e : S56) : truthAt n l (es ++ [e]) (es ++ [e]).length = tstep n l (truthAt n l es es.length) e := by
  rw [truthAt, truthAt, List.take_length, List.take_length, List.foldl_append]
  rfl
theorem rd_set (row : List Int) (i j : Nat) (v : Int) (hi : i < row.length) : rd (row.set i v) (j : Int) = if i = j then v else rd row (j : Int) := by
  simp only [rd, Int.toNat_natCast, List.getD_eq_getElem?_getD, List.getElem?_set]
  by_cases e : i = j
  · subst e; simp [hi]
  · simp [e]
theorem nonneg_of {row : List Int} (h : ∀ j : Nat, j < row.length → 0 ≤ rd row (j : Int)) : nonneg row = true := by
  unfold nonneg
  refine List.all_eq_true.2 fun x hx => ?_
  obtain ⟨j, hj, rfl⟩ := List.mem_iff_getElem.1 hx
  have := h j hj
  rw [show rd row (j : Int) = row[j] by simp [rd, hj]] at this
  simpa using this
def mvAt (f t : Int) (j : Nat) (x : Int) : Int := if f = (j : Int) then x - 1 else if t = (j : Int) then x + 1 else x
theorem rd_upd (row : List Int) (f v : Int) (hf : f < row.length) (j : Nat) : rd (if 0 ≤ f then row.set f.toNat v else row) (j : Int) = if f = (j : Int) then v else rd row (j : Int) := by
  by_cases h0 : 0 ≤ f
  · obtain ⟨a, rfl⟩ := Int.eq_ofNat_of_zero_le h0
    rw [if_pos h0, Int.toNat_natCast, rd_set row a j v (by omega)]
    by_cases e : a = j
    · rw [if_pos e, if_pos (by omega)]
    · rw [if_neg e, if_neg (by omega)]
  · rw [if_neg h0, if_neg (by omega)]
theorem upd_length (row : List Int) (f v : Int) : (if 0 ≤ f then row.set f.toNat v else row).length = row.length := by split <;> simp
theorem mv_rd (row : List Int) (f t : Int) (hf : f < row.length) (ht : t < row.length) (hne : f ≠ t) (hb : ∀ j : Nat, -1000000 ≤ rd row (j : Int) ∧ rd row (j : Int) ≤ 1000000) (hf0 : -1 ≤ f) (ht0 : -1 ≤ t) (j : Nat) : rd (mv row f t) (j : Int) = mvAt f t j (rd row (j : Int)) := by
  have hbj := hb j
  unfold mv mvAt
  simp only []
  rw [rd_upd _ t _ (by rw [upd_length]; exact ht) j]
  by_cases et : t = (j : Int)
  · have hfj : ¬ f = (j : Int) := by omega
    rw [if_pos et, et, rd_upd row f _ hf j, if_neg hfj, if_neg hfj, if_pos rfl, wrap_id (by omega) (by omega)]
  · rw [if_neg et, rd_upd row f _ hf j, if_neg et]
    by_cases ef : f = (j : Int)
    · rw [if_pos ef, if_pos ef, ef, wrap_id (by omega) (by omega)]
    · rw [if_neg ef, if_neg ef]
theorem rows_ext {r s : List Int} (hl : r.length = s.length) (h : ∀ j : Nat, j < r.length → rd r (j : Int) = rd s (j : Int)) : r = s := by
  apply List.ext_getElem hl
  intro i h1 h2
  have := h i h1
  simpa [rd, h1, h2] using this
theorem axle_rd (c : S88) (d : Int) (row : List Int) (hd : d = 1 ∨ d = -1) (hf : c.f0 < row.length) (ht : c.f1 < row.length) (hne : c.f0 ≠ c.f1) (hb : ∀ j : Nat, -1000000 ≤ rd row (j : Int) ∧ rd row (j : Int) ≤ 1000000) (hf0 : -1 ≤ c.f0) (ht0 : -1 ≤ c.f1) (j : Nat) :
    rd (axle c d row) (j : Int) = mvAt (if d < 0 then c.f1 else c.f0) (if d < 0 then c.f0 else c.f1) j (rd row (j : Int)) := by
  have hbj := hb j
  have key : rd (axle c d row) (j : Int) = if c.f0 = (j : Int) then rd row (j : Int) - d else if c.f1 = (j : Int) then rd row (j : Int) + d else rd row (j : Int) := by
    unfold axle
    simp only []
    rw [rd_upd _ c.f1 _ (by rw [upd_length]; exact ht) j]
    by_cases et : c.f1 = (j : Int)
    · have hfj : ¬ c.f0 = (j : Int) := by omega
      rw [if_pos et, et, rd_upd row c.f0 _ hf j, if_neg hfj, if_neg hfj, if_pos rfl, wrap_id (by omega) (by omega)]
    · rw [if_neg et, rd_upd row c.f0 _ hf j, if_neg et]
      by_cases ef : c.f0 = (j : Int)
      · rw [if_pos ef, if_pos ef, ef, wrap_id (by omega) (by omega)]
      · rw [if_neg ef, if_neg ef]
  rw [key]
  unfold mvAt
  rcases hd with rfl | rfl
  · simp
  · simp only [show ((-1 : Int) < 0) from by decide, if_true]
    by_cases e0 : c.f0 = (j : Int)
    · rw [if_pos e0, if_neg (by omega), if_pos e0]; omega
    · rw [if_neg e0]
      by_cases e1 : c.f1 = (j : Int)
      · rw [if_pos e1, if_pos e1]; omega
      · rw [if_neg e1, if_neg e1, if_neg e0]
def HonP (n : Int) (l : List S88) (es : List S56) : Prop := ∀ k : Nat, k < es.length → ((rd_T56 es (k : Int)).f0 = 5 → rd (truthAt n l es k) (rd_T56 es (k : Int)).f1 = 0) ∧ nonneg (truthAt n l es (k + 1)) = true
theorem rd56_app_lt (es : List S56) (e : S56) (k : Nat) (h : k < es.length) : rd_T56 (es ++ [e]) (k : Int) = rd_T56 es (k : Int) := by
  rw [rd56 _ k (by simp; omega), rd56 _ k h, List.getElem_append_left h]
theorem rd56_app_eq (es : List S56) (e : S56) : rd_T56 (es ++ [e]) (es.length : Int) = e := by
  rw [rd56 _ es.length (by simp)]; simp
theorem HonP.app {es : List S56} {e : S56} (h : HonP n l es) (h5 : e.f0 = 5 → rd (truthAt n l es es.length) e.f1 = 0) (hn : nonneg (tstep n l (truthAt n l es es.length) e) = true) : HonP n l (es ++ [e]) := by
  intro k hk
  rw [List.length_append, List.length_singleton] at hk
  by_cases e1 : k < es.length
  · rw [rd56_app_lt es e k e1, truthAt_app es e k (by omega), truthAt_app es e (k + 1) (by omega)]
    exact h k e1
  · have : k = es.length := by omega
    subst this
    rw [rd56_app_eq, truthAt_app es e _ (Nat.le_refl _)]
    refine ⟨h5, ?_⟩
    have := truthAt_last (n := n) (l := l) es e
    rw [List.length_append, List.length_singleton] at this
    rw [this]
    exact hn
structure EvI (n : Int) (l : List S88) (ho : Bool) (s : EvP) : Prop where
  th : s.th = truthAt n l s.out s.out.length
  dead0 : -1 ≤ s.dead
  dead1 : s.dead < (l.length : Int)
  ok : ∀ e ∈ s.out, eventOk n l e.f0 e.f1 e.f2 = true
  bd : ∀ j : Nat, -(s.out.length : Int) ≤ rd s.th (j : Int) ∧ rd s.th (j : Int) ≤ (s.out.length : Int)
  hon : ho = true → HonP n l s.out ∧ nonneg s.th = true
theorem EvI.skip {s : EvP} (h : EvI n l ho s) (c : Int × Int) (d : Int) (h0 : -1 ≤ d) (h1 : d < (l.length : Int)) : EvI n l ho ⟨c, s.th, d, s.out⟩ := ⟨h.th, h0, h1, h.ok, h.bd, h.hon⟩
theorem mem_snoc {e x : S56} {es : List S56} (h : x ∈ es ++ [e]) : x ∈ es ∨ x = e := by simpa using h
theorem EvI.add {s : EvP} (h : EvI n l ho s) (c : Int × Int) (d : Int) (h0 : -1 ≤ d) (h1 : d < (l.length : Int)) (e : S56) (hok : eventOk n l e.f0 e.f1 e.f2 = true) (hne : e.f0 ≠ 1) (h5 : ho = true → e.f0 = 5 → rd s.th e.f1 = 0) :
    EvI n l ho ⟨c, s.th, d, s.out ++ [e]⟩ := by
  have ht : tstep n l s.th e = s.th := by
    unfold tstep isPass
    rw [decide_eq_false hne, Bool.and_false]; rfl
  have hl := truthAt_last (n := n) (l := l) s.out e
  rw [← h.th, ht] at hl
  refine ⟨hl.symm, h0, h1, fun x hx => ?_, fun j => ?_, fun hh => ?_⟩
  · rcases mem_snoc hx with hx | rfl
    · exact h.ok x hx
    · exact hok
  · have := h.bd j
    simp only [List.length_append, List.length_singleton]
    exact ⟨by omega, by omega⟩
  · obtain ⟨k1, k2⟩ := h.hon hh
    refine ⟨k1.app (fun q => by rw [← h.th]; exact h5 hh q) (by rw [← h.th, ht]; exact k2), k2⟩
theorem EvI.pass {s : EvP} (h : EvI n l ho s) (hl0 : layoutOk n l = 0) (c : Int × Int) (k d f t : Int) (hk0 : 0 ≤ k) (hk1 : k < (l.length : Int)) (hd : d = 1 ∨ d = -1) (hlen : s.out.length ≤ 1000)
    (hf : f = if d < 0 then (rd_T88 l k).f1 else (rd_T88 l k).f0) (ht : t = if d < 0 then (rd_T88 l k).f0 else (rd_T88 l k).f1) (hgo : ho = true → f < 0 ∨ 0 < rd s.th f) :
    EvI n l ho ⟨c, mv s.th f t, s.dead, s.out ++ [⟨1, k, d⟩]⟩ := by
  have hn := lay_n hl0
  have hx := lay_rd hl0 k hk0 hk1
  have hth : s.th.length = n.toNat := by rw [h.th, truthAt_length]
  have hok : eventOk n l 1 k d = true := by
    unfold eventOk
    rw [if_pos hl0, if_pos (Or.inl rfl), decide_eq_true hk0, decide_eq_true hk1]
    rcases hd with rfl | rfl <;> rfl
  have hbd : ∀ j : Nat, -1000000 ≤ rd s.th (j : Int) ∧ rd s.th (j : Int) ≤ 1000000 := fun j => by have := h.bd j; omega
  have hfr : -1 ≤ f ∧ f < n ∧ -1 ≤ t ∧ t < n ∧ f ≠ t := by
    rw [hf, ht]
    by_cases h2 : d < 0
    · simp only [if_pos h2]; omega
    · simp only [if_neg h2]; omega
  have hmv : ∀ j : Nat, rd (mv s.th f t) (j : Int) = mvAt f t j (rd s.th (j : Int)) := fun j => mv_rd s.th f t (by rw [hth]; omega) (by rw [hth]; omega) hfr.2.2.2.2 hbd hfr.1 hfr.2.2.1 j
  have hst : tstep n l s.th ⟨1, k, d⟩ = mv s.th f t := by
    unfold tstep isPass
    rw [hok, Bool.true_and, decide_eq_true rfl, if_pos rfl]
    refine rows_ext (by rw [axle_length, mv_length]) fun j hj => ?_
    rw [hmv j]
    show rd (axle (rd_T88 l k) d s.th) (j : Int) = _
    rw [axle_rd _ _ _ hd (by rw [hth]; omega) (by rw [hth]; omega) hx.2.2.2.2 hbd hx.1 hx.2.2.1, ← hf, ← ht]
  have hl := truthAt_last (n := n) (l := l) s.out ⟨1, k, d⟩
  rw [← h.th, hst] at hl
  refine ⟨hl.symm, h.dead0, h.dead1, fun x hx => ?_, fun j => ?_, fun hh => ?_⟩
  · rcases mem_snoc hx with hx | rfl
    · exact h.ok x hx
    · exact hok
  · have hb := h.bd j
    show -((s.out ++ [(⟨1, k, d⟩ : S56)]).length : Int) ≤ rd (mv s.th f t) (j : Int) ∧ _
    rw [hmv j]
    simp only [List.length_append, List.length_singleton, mvAt]
    split
    · exact ⟨by omega, by omega⟩
    · split
      · exact ⟨by omega, by omega⟩
      · exact ⟨by omega, by omega⟩
  · obtain ⟨k1, k2⟩ := h.hon hh
    have hnn : nonneg (mv s.th f t) = true := by
      refine nonneg_of fun j hj => ?_
      rw [mv_length] at hj
      rw [hmv j]
      have h0 := rd_all k2 j hj
      unfold mvAt
      split
      · rename_i e
        rcases hgo hh with h2 | h2
        · omega
        · rw [e] at h2; omega
      · split <;> omega
    exact ⟨k1.app (fun q => by exact absurd q (by show ¬ (1 : Int) = 5; decide)) (by rw [← h.th, hst]; exact hnn), hnn⟩
theorem dir_of {v : Int} (h0 : 0 ≤ v) (h1 : v < 2) : wrap64 (1 - wrap64 (2 * v)) = 1 ∨ wrap64 (1 - wrap64 (2 * v)) = -1 := by
  rw [wrap_id (x := 2 * v) (by omega) (by omega), wrap_id (by omega) (by omega)]
  omega
theorem ok12 (hl0 : layoutOk n l = 0) {op k d : Int} (ho : op = 1 ∨ op = 2) (h0 : 0 ≤ k) (h1 : k < (l.length : Int)) (hd : d = 1 ∨ d = -1) : eventOk n l op k d = true := by
  unfold eventOk
  rw [if_pos hl0, if_pos ho, decide_eq_true h0, decide_eq_true h1]
  rcases hd with rfl | rfl <;> rfl
theorem ok34 (hl0 : layoutOk n l = 0) {op k : Int} (ho : op = 3 ∨ op = 4) (h0 : 0 ≤ k) (h1 : k < (l.length : Int)) : eventOk n l op k 0 = true := by
  unfold eventOk
  rw [if_pos hl0, if_neg (by omega), if_pos ho, decide_eq_true h0, decide_eq_true h1]
  rfl
theorem ok5 (hl0 : layoutOk n l = 0) {k : Int} (h0 : 0 ≤ k) (h1 : k < n) : eventOk n l 5 k 0 = true := by
  unfold eventOk
  rw [if_pos hl0, if_neg (by omega), if_neg (by omega), if_pos rfl, decide_eq_true h0, decide_eq_true h1]
  rfl
theorem evAsk_ok {yes ho : Bool} {c : Int × Int} {m b : Int} (hc : CurOk code b c) (hb : b ≤ 2000000000) (hm : 0 < m) : CurOk code (b + 2) (evAsk code yes ho c m).2 ∧ (ho = true → (evAsk code yes ho c m).1 = true → yes = true) := by
  unfold evAsk
  obtain ⟨v, c', _, hp, _, _, hc'⟩ := pick_ok hc (by omega) hm
  cases yes with
  | true => exact ⟨hc.mono (by omega), fun _ _ => rfl⟩
  | false =>
    cases ho with
    | true => exact ⟨hc.mono (by omega), fun _ h => absurd h (by simp)⟩
    | false => simp only [hp]; exact ⟨hc', fun h => absurd h (by simp)⟩
theorem evStep_ok {s : EvP} {b : Int} (hl0 : layoutOk n l = 0) (hlp : 0 < l.length) (h : EvI n l ho s) (hc : CurOk code b s.c) (hb : b ≤ 1900000000) (hlen : s.out.length ≤ 1000) :
    EvI n l ho (evStep code n l ho s) ∧ CurOk code (b + 12) (evStep code n l ho s).c ∧ (evStep code n l ho s).out.length ≤ s.out.length + 1 := by
  have hn := lay_n hl0
  obtain ⟨k, c1, _, hk, k0, k1, hc1⟩ := pick_ok (m := (l.length : Int)) hc (by omega) (by omega)
  obtain ⟨a, c2, _, ha, a0, a1, hc2⟩ := pick_ok (m := 16) hc1 (by omega) (by omega)
  unfold evStep
  simp only [hk, ha]
  split
  · obtain ⟨v, c3, _, hv, v0, v1, hc3⟩ := pick_ok (m := 2) hc2 (by omega) (by omega)
    simp only [hv]
    exact ⟨h.add _ _ h.dead0 h.dead1 _ (ok12 hl0 (.inr rfl) k0 k1 (dir_of v0 v1)) (by show (2 : Int) ≠ 1; decide) (fun _ q => absurd q (by show (2 : Int) ≠ 5; decide)), hc3.mono (by omega), by simp⟩
  · split
    · exact ⟨h.add _ _ (by omega) k1 _ (ok34 hl0 (.inl rfl) k0 k1) (by show (3 : Int) ≠ 1; decide) (fun _ q => absurd q (by show (3 : Int) ≠ 5; decide)), hc2.mono (by omega), by simp⟩
    · split
      · refine ⟨h.add _ _ (by omega) (by omega) _ (ok34 hl0 (.inr rfl) ?_ ?_) (by show (4 : Int) ≠ 1; decide) (fun _ q => absurd q (by show (4 : Int) ≠ 5; decide)), hc2.mono (by omega), by simp⟩
        · show 0 ≤ (if 0 ≤ s.dead then s.dead else k)
          split
          · assumption
          · exact k0
        · show (if 0 ≤ s.dead then s.dead else k) < (l.length : Int)
          split
          · exact h.dead1
          · exact k1
      · split
        · unfold evReset
          obtain ⟨v, c3, _, hv, v0, v1, hc3⟩ := pick_ok (m := n) hc2 (by omega) (by omega)
          simp only [hv]
          have hq := evAsk_ok (yes := rd s.th v == 0) (ho := ho) (m := 4) hc3 (by omega) (by omega)
          generalize evAsk code (rd s.th v == 0) ho c3 4 = q at hq
          obtain ⟨yes, c4⟩ := q
          cases yes with
          | true =>
            exact ⟨h.add _ _ h.dead0 h.dead1 _ (ok5 hl0 v0 v1) (by show (5 : Int) ≠ 1; decide) (fun hh _ => by have := hq.2 hh rfl; show rd s.th v = 0; simpa using this), hq.1.mono (by omega), by simp⟩
          | false => exact ⟨h.skip _ _ h.dead0 h.dead1, hq.1.mono (by omega), by simp⟩
        · unfold evPass
          obtain ⟨v, c3, _, hv, v0, v1, hc3⟩ := pick_ok (m := 2) hc2 (by omega) (by omega)
          simp only [hv]
          obtain ⟨d, hd⟩ : ∃ d, d = wrap64 (1 - wrap64 (2 * v)) := ⟨_, rfl⟩
          have hdir := dir_of v0 v1
          rw [← hd] at hdir ⊢
          obtain ⟨f, hf⟩ : ∃ f, f = if d < 0 then (rd_T88 l k).f1 else (rd_T88 l k).f0 := ⟨_, rfl⟩
          obtain ⟨t, ht⟩ : ∃ t, t = if d < 0 then (rd_T88 l k).f0 else (rd_T88 l k).f1 := ⟨_, rfl⟩
          rw [← hf, ← ht]
          have hq := evAsk_ok (yes := decide (f < 0) || decide (0 < rd s.th f)) (ho := ho) (m := 8) hc3 (by omega) (by omega)
          generalize evAsk code (decide (f < 0) || decide (0 < rd s.th f)) ho c3 8 = q at hq
          obtain ⟨yes, c4⟩ := q
          cases yes with
          | true =>
            rw [if_pos rfl]
            exact ⟨h.pass hl0 _ k d f t k0 k1 hdir hlen hf ht (fun hh => by have := hq.2 hh rfl; simpa using this), hq.1.mono (by omega), by simp⟩
          | false =>
            rw [if_neg (by simp)]
            exact ⟨h.skip _ _ h.dead0 h.dead1, hq.1.mono (by omega), by simp⟩
theorem evLoop_ok (hl0 : layoutOk n l = 0) : ∀ (q : Nat) (s : EvP) (b : Int), EvI n l ho s → CurOk code b s.c → b + 12 * q ≤ 1900000000 → s.out.length + q ≤ 1000 →
    EvI n l ho (evLoop code n l ho q s) ∧ CurOk code (b + 12 * q) (evLoop code n l ho q s).c ∧ (evLoop code n l ho q s).out.length ≤ s.out.length + q := by
  have hn := lay_n hl0
  intro q
  induction q with
  | zero => intro s b h hc _ _; exact ⟨h, hc.mono (by omega), by simp [evLoop]⟩
  | succ q ih =>
    intro s b h hc hb hlen
    unfold evLoop
    by_cases hz : l.length = 0
    · obtain ⟨v, c3, _, hv, v0, v1, hc3⟩ := pick_ok (m := n) hc (by omega) (by omega)
      rw [if_pos hz]
      simp only [hv]
      refine ⟨h.add _ _ h.dead0 h.dead1 _ (ok5 hl0 v0 v1) (by show (5 : Int) ≠ 1; decide) (fun hh _ => ?_), hc3.mono (by omega), by simp⟩
      have hall : ∀ es : List S56, (∀ e ∈ es, eventOk n l e.f0 e.f1 e.f2 = true) → es.foldl (tstep n l) (row0 n) = row0 n := by
        intro es
        induction es with
        | nil => intro _; rfl
        | cons e es ih2 =>
          intro hes
          have he : isPass n l e = false := by
            cases hp : isPass n l e with
            | false => rfl
            | true => obtain ⟨_, p1, p2, _⟩ := isPass_of hp; omega
          rw [List.foldl_cons, show tstep n l (row0 n) e = row0 n by unfold tstep; rw [he]; rfl]
          exact ih2 (fun e he => hes e (List.mem_cons_of_mem _ he))
      show rd s.th v = 0
      rw [h.th, truthAt, List.take_length, hall _ h.ok, rd, row0]
      simp only [List.getD_eq_getElem?_getD, List.getElem?_replicate]
      split <;> rfl
    · rw [if_neg hz]
      obtain ⟨k1, k2, k3⟩ := evStep_ok (code := code) hl0 (by omega) h hc (by omega) (by omega)
      obtain ⟨j1, j2, j3⟩ := ih _ _ k1 k2 (by omega) (by omega)
      exact ⟨j1, j2.mono (by omega), by omega⟩
theorem evDraw_ok {b : Int} {c : Int × Int} (hl0 : layoutOk n l = 0) (hc : CurOk code b c) (hb : b ≤ 1000000000) : EvI n l ho (evDraw code n l ho c) ∧ (evDraw code n l ho c).out.length ≤ 30 := by
  have hn := lay_n hl0
  unfold evDraw
  obtain ⟨v, c1, _, hv, v0, v1, hc1⟩ := pick_ok (m := 30) hc (by omega) (by omega)
  simp only [hv]
  have hrow : ∀ j : Nat, rd (List.replicate n.toNat (0 : Int)) (j : Int) = 0 := fun j => by
    rw [rd]
    simp only [List.getD_eq_getElem?_getD, List.getElem?_replicate]
    split <;> rfl
  have h := evLoop_ok (code := code) (ho := ho) hl0 v.toNat ⟨c1, List.replicate n.toNat 0, -1, []⟩ (b + 2)
    ⟨by simp [truthAt, row0], by show (-1 : Int) ≤ -1; decide, by show (-1 : Int) < _; omega, fun e he => absurd he (by simp), fun j => by show -((0 : Nat) : Int) ≤ rd (List.replicate n.toNat (0 : Int)) (j : Int) ∧ rd (List.replicate n.toNat (0 : Int)) (j : Int) ≤ ((0 : Nat) : Int); rw [hrow j]; simp,
     fun _ => ⟨fun k hk => absurd hk (by simp), nonneg_of fun j _ => by show 0 ≤ rd (List.replicate n.toNat (0 : Int)) (j : Int); rw [hrow j]; exact Int.le_refl _⟩⟩ hc1 (by omega) (by show 0 + v.toNat ≤ 1000; omega)
  exact ⟨h.1, by have := h.2.2; simp at this; omega⟩
end
end Go.Proofs.Ytpdnabhpkdchjaa.P
namespace Go.Proofs.Ytpdnabhpkdchjaa.P
open Go.RowKit Go.Proofs.YtpdnabhpkdchjaaW.PrintWords Go.Proofs.YtpdnabhpkdchjaaW.PrintLast Go.Proofs.YtpdnabhpkdchjaaW.PrintMore
set_option linter.unusedVariables false
set_option linter.unusedSimpArgs false
theorem rd_runTo (n : Int) (l : List S88) (es : List S56) (m i : Nat) (h : i < m) : rd_T48 (runTo n l es m) (i : Int) = runStep n l (stAt n l es i) (rd_T56 es (i : Int)) := by
  simp [rd_T48, runTo, h]
theorem gaps_dims (n : Int) (l : List S88) (es : List S56) : (truth n l es).length = (run n l es).length ∧ (run n l es).length ≤ 2000 ∧ ∀ i : Nat, i < (run n l es).length → (rd_L12 (truth n l es) (i : Int)).length = (rd_T48 (run n l es) (i : Int)).f1.f1.length ∧ (rd_T48 (run n l es) (i : Int)).f1.f1.length ≤ 60 := by
  by_cases h : layoutOk n l = 0 ∧ es.length ≤ 2000
  · have hn := lay_n h.1
    have hr : run n l es = runTo n l es es.length := by rw [run, if_pos h]
    rw [hr]
    refine ⟨by rw [truth_len h.1 h.2, runTo_length], by rw [runTo_length]; exact h.2, ?_⟩
    intro i hi
    rw [runTo_length] at hi
    rw [truth_rd h.1 h.2 i hi, truthAt_length, rd_runTo n l es _ i hi, (runStep_len n l _ _).1, (stAt_len n l es i).1]
    exact ⟨rfl, by omega⟩
  · have hr : run n l es = [] := by rw [run, if_neg h]
    have ht : truth n l es = [] := by rw [truth, if_neg h]
    rw [hr, ht]
    exact ⟨rfl, by simp, fun i hi => absurd hi (by simp)⟩
end Go.Proofs.Ytpdnabhpkdchjaa.P
namespace Go.Proofs.Ytpdnabhpkdchjaa.P
open Go.RowKit Go.Proofs.YtpdnabhpkdchjaaW.PrintWords Go.Proofs.YtpdnabhpkdchjaaW.PrintLast Go.Proofs.YtpdnabhpkdchjaaW.PrintMore
set_option linter.unusedVariables false
set_option linter.unusedSimpArgs false
section
variable {n : Int} {l : List S88} {es : List S56}
def midAt (l : List S88) (op of dir : Int) (j : Nat) (x : S50) : S50 :=
  let c := rd_T88 l of
  let f := if dir = -1 then c.f1 else c.f0
  let t := if dir = -1 then c.f0 else c.f1
  if op = 1 then (if f = (j : Int) then countS x (-1) else if t = (j : Int) then countS x 1 else x)
  else if op = 2 then (if t = (j : Int) then countS x 1 else x)
  else if op = 3 then (if c.f0 = (j : Int) ∨ c.f1 = (j : Int) then loseS x else x)
  else if op = 5 then (if of = (j : Int) then ⟨0, 0, false, true, 0⟩ else x) else x
theorem mid_get (ss : List S50) (op of dir : Int) (hne : op = 1 ∨ op = 3 → (rd_T88 l of).f0 ≠ (rd_T88 l of).f1) (h0 : 0 ≤ of) (j : Nat) (hj : j < ss.length) : rd_T50 (midSecs l ss op of dir) (j : Int) = midAt l op of dir j (rd_T50 ss (j : Int)) := by
  unfold midSecs midAt
  simp only []
  by_cases h1 : op = 1
  · have hn := hne (.inl h1)
    rw [if_pos h1, if_pos h1, addS_get _ _ _ j (by rw [addS_length]; exact hj), addS_get _ _ _ j hj]
    by_cases hd : dir = -1
    · simp only [if_pos hd]
      by_cases e1 : (rd_T88 l of).f1 = (j : Int)
      · rw [if_pos e1, if_pos e1, if_neg (by omega)]
      · rw [if_neg e1, if_neg e1]
    · simp only [if_neg hd]
      by_cases e1 : (rd_T88 l of).f0 = (j : Int)
      · rw [if_pos e1, if_pos e1, if_neg (by omega)]
      · rw [if_neg e1, if_neg e1]
  · rw [if_neg h1, if_neg h1]
    by_cases h2 : op = 2
    · rw [if_pos h2, if_pos h2, addS_get _ _ _ j hj]
    · rw [if_neg h2, if_neg h2]
      by_cases h3 : op = 3
      · have hn := hne (.inr h3)
        rw [if_pos h3, if_pos h3, loseAt_get _ _ j (by rw [loseAt_length]; exact hj), loseAt_get _ _ j hj]
        by_cases e1 : (rd_T88 l of).f1 = (j : Int)
        · rw [if_pos e1, if_neg (by omega), if_pos (.inr e1)]
        · rw [if_neg e1]
          by_cases e0 : (rd_T88 l of).f0 = (j : Int)
          · rw [if_pos e0, if_pos (.inl e0)]
          · rw [if_neg e0, if_neg (by omega)]
      · rw [if_neg h3, if_neg h3]
        by_cases h5 : op = 5
        · rw [if_pos h5, if_pos h5]
          obtain ⟨a, rfl⟩ := Int.eq_ofNat_of_zero_le h0
          by_cases e : a = j
          · subst e; simp [rd_T50, hj]
          · rw [if_neg (by omega)]; simp [rd_T50, List.getElem?_set_ne e]
        · rw [if_neg h5, if_neg h5]
theorem ev_cases {op of dir : Int} (h : eventOk n l op of dir = true) :
    ((op = 1 ∨ op = 2) ∧ 0 ≤ of ∧ of < (l.length : Int) ∧ (dir = 1 ∨ dir = -1)) ∨ ((op = 3 ∨ op = 4) ∧ 0 ≤ of ∧ of < (l.length : Int)) ∨ (op = 5 ∧ 0 ≤ of ∧ of < n) := by
  unfold eventOk at h
  split at h
  · split at h
    · rename_i h1
      simp at h
      exact .inl ⟨h1, h.1.1, h.1.2, h.2⟩
    · split at h
      · rename_i h1
        simp at h
        exact .inr (.inl ⟨h1, h.1.1, h.1.2⟩)
      · split at h
        · rename_i h1
          simp at h
          exact .inr (.inr ⟨h1, h.1.1, h.1.2⟩)
        · cases h
  · cases h
theorem step_get {s : S46} {e : S56} (hl : layoutOk n l = 0) (hok : eventOk n l e.f0 e.f1 e.f2 = true) (hc : doCode l s.f1 s.f2 e.f0 e.f1 = 0) (j : Nat) (hj : j < s.f1.length) :
    rd_T50 (runStep n l s e).f1.f1 (j : Int) = tellS l (midDead s.f2 e.f0 e.f1) j (midAt l e.f0 e.f1 e.f2 j (rd_T50 s.f1 (j : Int))) := by
  have h0 : 0 ≤ e.f1 ∧ (e.f0 = 1 ∨ e.f0 = 3 → (rd_T88 l e.f1).f0 ≠ (rd_T88 l e.f1).f1) := by
    rcases ev_cases hok with ⟨ho, h0, h1, _⟩ | ⟨ho, h0, h1⟩ | ⟨ho, h0, h1⟩
    · exact ⟨h0, fun _ => (lay_rd hl _ h0 h1).2.2.2.2⟩
    · exact ⟨h0, fun _ => (lay_rd hl _ h0 h1).2.2.2.2⟩
    · exact ⟨h0, fun h => by omega⟩
  unfold runStep
  rw [if_pos hok]
  show rd_T50 (doSecs l s.f1 s.f2 e.f0 e.f1 e.f2) (j : Int) = _
  unfold doSecs
  rw [if_pos hc, retold_get _ _ _ j (by rw [midSecs_length]; exact hj), mid_get _ _ _ _ h0.2 h0.1 j hj]
theorem tstep_pass {row : List Int} {e : S56} (hok : eventOk n l e.f0 e.f1 e.f2 = true) (h1 : e.f0 = 1) : tstep n l row e = axle (rd_T88 l e.f1) e.f2 row := by
  unfold tstep isPass
  rw [hok, decide_eq_true h1]
  rfl
theorem tstep_other {row : List Int} {e : S56} (h1 : e.f0 ≠ 1) : tstep n l row e = row := by
  unfold tstep isPass
  rw [decide_eq_false h1, Bool.and_false]
  rfl
theorem cnt_id {x : S50} {b : Int} {i : Nat} (hi : i ≤ 2000) (hb : b = 1 ∨ b = -1) (h : -(i : Int) ≤ x.f1 ∧ x.f1 ≤ (i : Int)) : cntN x b = x.f1 + b := by
  have : wrap64 (x.f1 + b) = x.f1 + b := wrap_id (by omega) (by omega)
  unfold cntN
  rw [this, if_pos (by omega)]
end
end Go.Proofs.Ytpdnabhpkdchjaa.P
namespace Go.Proofs.Ytpdnabhpkdchjaa.P
open Go.RowKit Go.Proofs.YtpdnabhpkdchjaaW.PrintWords Go.Proofs.YtpdnabhpkdchjaaW.PrintLast Go.Proofs.YtpdnabhpkdchjaaW.PrintMore
set_option linter.unusedVariables false
set_option linter.unusedSimpArgs false
section
variable {n : Int} {l : List S88} {es : List S56}
def isP (e : S56) : Bool := e.f0 == 1
theorem fold_filter (es : List S56) : ∀ r : List Int, (es.filter isP).foldl (tstep n l) r = es.foldl (tstep n l) r := by
  induction es with
  | nil => intro r; rfl
  | cons e es ih =>
    intro r
    rw [List.filter_cons]
    by_cases h : isP e = true
    · rw [if_pos h, List.foldl_cons, List.foldl_cons, ih]
    · rw [if_neg h, List.foldl_cons, tstep_other (by simpa [isP] using h), ih]
theorem take_filter {α : Type} (p : α → Bool) (es : List α) : ∀ k : Nat, k ≤ (es.filter p).length → ∃ m, m ≤ es.length ∧ (es.filter p).take k = (es.take m).filter p := by
  induction es with
  | nil => intro k h; exact ⟨0, Nat.le_refl _, by simp⟩
  | cons e es ih =>
    intro k h
    rw [List.filter_cons] at h ⊢
    by_cases hp : p e = true
    · rw [if_pos hp] at h ⊢
      cases k with
      | zero => exact ⟨0, Nat.zero_le _, by simp⟩
      | succ k =>
        obtain ⟨m, hm, e1⟩ := ih k (by simpa using h)
        exact ⟨m + 1, by simpa using hm, by rw [List.take_succ_cons, List.take_succ_cons, List.filter_cons, if_pos hp, e1]⟩
    · rw [if_neg hp] at h ⊢
      obtain ⟨m, hm, e1⟩ := ih k h
      exact ⟨m + 1, by simpa using hm, by rw [List.take_succ_cons, List.filter_cons, if_neg hp, e1]⟩
theorem hon_take (h : HonP n l es) (m : Nat) (hm : m ≤ es.length) : nonneg (truthAt n l es m) = true := by
  cases m with
  | zero =>
    refine nonneg_of fun j _ => ?_
    rw [truthAt, List.take_zero, List.foldl_nil, row0, rd]
    simp only [List.getD_eq_getElem?_getD, List.getElem?_replicate]
    split <;> exact Int.le_refl _
  | succ m => exact (h m (by omega)).2
theorem just_hon (h : HonP n l es) : HonP n l (es.filter isP) := by
  intro k hk
  have hmem : (es.filter isP)[k] ∈ es.filter isP := List.getElem_mem hk
  have h1 : (es.filter isP)[k].f0 = 1 := by simpa [isP] using (List.mem_filter.1 hmem).2
  refine ⟨fun q => ?_, ?_⟩
  · rw [rd56 _ k hk, h1] at q; exact absurd q (by decide)
  · obtain ⟨m, hm, e⟩ := take_filter isP es (k + 1) (by omega)
    rw [truthAt, e, fold_filter]
    exact hon_take h m hm
structure JustI (l : List S88) (s : S46) (row : List Int) (i : Nat) : Prop where
  dead : s.f2 = List.replicate l.length false
  sec : ∀ j : Nat, j < s.f1.length → (rd_T50 s.f1 (j : Int)).f1 = rd row (j : Int) ∧ (rd_T50 s.f1 (j : Int)).f2 = false ∧ (rd_T50 s.f1 (j : Int)).f3 = false
  rb : ∀ j : Nat, -(i : Int) ≤ rd row (j : Int) ∧ rd row (j : Int) ≤ (i : Int)
theorem dead_none (k : Int) (m : Nat) : rdOf false (List.replicate m false) k = false := by
  simp only [rdOf, List.getD_eq_getElem?_getD, List.getElem?_replicate]; split <;> rfl
theorem pass_code {s : S46} {op of : Int} (hd : s.f2 = List.replicate l.length false) (h1 : op = 1) : doCode l s.f1 s.f2 op of = 0 := by
  unfold doCode
  rw [if_pos (.inl h1), hd, dead_none]
  rfl
theorem just_step {s : S46} {row : List Int} {e : S56} {i : Nat} (hi : i < 2000) (hl : layoutOk n l = 0) (hsn : (s.f1.length : Int) = n) (hrow : row.length = n.toNat) (h : JustI l s row i) (hok : eventOk n l e.f0 e.f1 e.f2 = true) (h1 : e.f0 = 1) (hnn : nonneg (tstep n l row e) = true) :
    JustI l (runStep n l s e).f1 (tstep n l row e) (i + 1) := by
  have hn := lay_n hl
  have hlen := (runStep_len n l s e).1
  have hrb : ∀ j : Nat, -1000000 ≤ rd row (j : Int) ∧ rd row (j : Int) ≤ 1000000 := fun j => by have := h.rb j; omega
  have hc : doCode l s.f1 s.f2 e.f0 e.f1 = 0 := pass_code h.dead h1
  rcases ev_cases hok with ⟨_, h0, h2, hd⟩ | ⟨ho, _⟩ | ⟨ho, _⟩
  · have hx := lay_rd hl _ h0 h2
    have hrow' : ∀ j : Nat, rd (tstep n l row e) (j : Int) = mvAt (if e.f2 < 0 then (rd_T88 l e.f1).f1 else (rd_T88 l e.f1).f0) (if e.f2 < 0 then (rd_T88 l e.f1).f0 else (rd_T88 l e.f1).f1) j (rd row (j : Int)) := fun j => by
      rw [tstep_pass hok h1]
      exact axle_rd _ _ _ hd (by rw [hrow]; omega) (by rw [hrow]; omega) hx.2.2.2.2 hrb hx.1 hx.2.2.1 j
    have hdd : (if e.f2 = -1 then (rd_T88 l e.f1).f1 else (rd_T88 l e.f1).f0) = (if e.f2 < 0 then (rd_T88 l e.f1).f1 else (rd_T88 l e.f1).f0) ∧ (if e.f2 = -1 then (rd_T88 l e.f1).f0 else (rd_T88 l e.f1).f1) = (if e.f2 < 0 then (rd_T88 l e.f1).f0 else (rd_T88 l e.f1).f1) := by
      rcases hd with hd | hd <;> simp [hd]
    refine ⟨?_, fun j hj => ?_, fun j => ?_⟩
    · have hz : doDead l s.f1 s.f2 e.f0 e.f1 = s.f2 := by
        unfold doDead midDead
        rw [if_pos hc, if_neg (by omega), if_neg (by omega)]
      unfold runStep
      rw [if_pos hok]
      show doDead l s.f1 s.f2 e.f0 e.f1 = _
      rw [hz, h.dead]
    · rw [hlen] at hj
      rw [step_get hl hok hc j hj, hrow' j]
      have hs := h.sec j hj
      have hb := h.rb j
      have hnj := rd_all hnn j (by rw [tstep_length, hrow]; omega)
      rw [hrow' j] at hnj
      rw [← hs.1] at hb hnj ⊢
      have c1 := cnt_id (x := rd_T50 s.f1 (j : Int)) (b := 1) (i := i) (by omega) (.inl rfl) hb
      have c2 := cnt_id (x := rd_T50 s.f1 (j : Int)) (b := -1) (i := i) (by omega) (.inr rfl) hb
      generalize rd_T50 s.f1 (j : Int) = x at *
      unfold midAt tellS
      simp only [h1, if_true]
      rw [hdd.1, hdd.2]
      generalize (if e.f2 < 0 then (rd_T88 l e.f1).f1 else (rd_T88 l e.f1).f0) = f at *
      generalize (if e.f2 < 0 then (rd_T88 l e.f1).f0 else (rd_T88 l e.f1).f1) = t at *
      unfold mvAt at hnj ⊢
      by_cases ef : f = (j : Int)
      · rw [if_pos ef] at hnj
        simp only [if_pos ef, countS]
        exact ⟨by rw [c2]; omega, by rw [c2, hs.2.1]; simp; omega, by rw [hs.2.2]; rfl⟩
      · simp only [if_neg ef] at hnj ⊢
        by_cases et : t = (j : Int)
        · rw [if_pos et] at hnj
          simp only [if_pos et, countS]
          exact ⟨by rw [c1], by rw [c1, hs.2.1]; simp; omega, by rw [hs.2.2]; rfl⟩
        · simp only [if_neg et] at hnj ⊢
          exact ⟨trivial, hs.2⟩
    · rw [hrow' j]
      have hb := h.rb j
      unfold mvAt
      split
      · omega
      · split <;> omega
  · omega
  · omega
theorem just_at (hl : layoutOk n l = 0) (he : es.length ≤ 2000) (hok : ∀ e ∈ es, eventOk n l e.f0 e.f1 e.f2 = true) (hp : ∀ e ∈ es, e.f0 = 1) (h : HonP n l es) : ∀ k : Nat, k ≤ es.length → JustI l (stAt n l es k) (truthAt n l es k) k := by
  have hn := lay_n hl
  intro k
  induction k with
  | zero =>
    intro _
    have hz : ∀ j : Nat, rd_T50 (stAt n l es 0).f1 (j : Int) = z50 := fun j => by
      rw [stAt_zero]
      show rd_T50 (List.replicate n.toNat z50) (j : Int) = z50
      simp only [rd_T50, List.getD_eq_getElem?_getD, List.getElem?_replicate]
      split <;> rfl
    have hr : ∀ j : Nat, rd (truthAt n l es 0) (j : Int) = 0 := fun j => by
      rw [truthAt, List.take_zero, List.foldl_nil, row0, rd]
      simp only [List.getD_eq_getElem?_getD, List.getElem?_replicate]
      split <;> rfl
    exact ⟨by rw [stAt_zero]; rfl, fun j _ => by rw [hr, hz]; exact ⟨rfl, rfl, rfl⟩, fun j => by rw [hr]; exact ⟨Int.le_refl _, Int.le_refl _⟩⟩
  | succ k ih =>
    intro hk
    have hk' : k < es.length := by omega
    have hmem := List.getElem_mem hk'
    have h2 := (h k hk').2
    rw [truthAt_succ hk'] at h2
    rw [stAt_succ n l es k hk', truthAt_succ hk', rd56 es k hk']
    exact just_step (by omega) hl (by rw [(stAt_len n l es k).1]; omega) (truthAt_length _ _ _ _) (ih (by omega)) (hok _ hmem) (hp _ hmem) h2
theorem just_told (hl : layoutOk n l = 0) (he : es.length ≤ 2000) (hok : ∀ e ∈ es, eventOk n l e.f0 e.f1 e.f2 = true) (hp : ∀ e ∈ es, e.f0 = 1) (h : HonP n l es) (i : Nat) (hi : i < es.length) :
    (runStep n l (stAt n l es i) (rd_T56 es (i : Int))).f0 = 0 ∧ ∀ j : Nat, (j : Int) < n → (rd_T50 (stAt n l es (i + 1)).f1 (j : Int)).f1 = rd (truthAt n l es (i + 1)) (j : Int) ∧
      ((rd_T50 (stAt n l es (i + 1)).f1 (j : Int)).f0 == 0) = (rd (truthAt n l es (i + 1)) (j : Int) == 0) ∧ (rd_T50 (stAt n l es (i + 1)).f1 (j : Int)).f0 ≤ 1 := by
  have hn := lay_n hl
  have h0 := just_at hl he hok hp h i (by omega)
  have h1 := just_at hl he hok hp h (i + 1) (by omega)
  have hmem := List.getElem_mem hi
  refine ⟨?_, fun j hj => ?_⟩
  · unfold runStep
    rw [rd56 es i hi, if_pos (hok _ hmem)]
    exact pass_code h0.dead (hp _ hmem)
  · have hst := stAt_ok hl es (i + 1)
    obtain ⟨-, -, hsn, -, hsec⟩ := stateOk_of hst
    have hj' : j < (stAt n l es (i + 1)).f1.length := by omega
    have ht := secOk_told (hsec j hj')
    obtain ⟨e1, e2, e3⟩ := h1.sec j hj'
    rw [h1.dead] at ht
    have hdd := anyFalse l l.length (j : Int)
    rw [ht, ← e1]
    generalize rd_T50 (stAt n l es (i + 1)).f1 (j : Int) = x at *
    have e4 : toldC l (List.replicate l.length false) (j : Int) x = if x.f1 = 0 then 0 else 1 := by
      unfold toldC
      rw [hdd, e2, e3]
      by_cases hq : x.f1 = 0
      · simp [hq]
      · simp [hq]
    rw [e4]
    refine ⟨rfl, ?_, ?_⟩
    · by_cases hq : x.f1 = 0
      · simp [hq]
      · simp [hq]
    · split <;> decide
end
end Go.Proofs.Ytpdnabhpkdchjaa.P
namespace Go.Proofs.Ytpdnabhpkdchjaa.P
open Go.RowKit Go.Proofs.YtpdnabhpkdchjaaW.PrintWords Go.Proofs.YtpdnabhpkdchjaaW.PrintLast Go.Proofs.YtpdnabhpkdchjaaW.PrintMore
set_option linter.unusedVariables false
theorem R_off {α : Type} {d : Kd α} {e : Nat} {w : World} {base : Nat} {ok : Nat → Prop} {v : Value} {xs : List α} (hE : d.E = []) (h : d.R e w base ok v xs) {p : Addr} (hne : some p.block ≠ v.ownBlock) (u : Value) : d.R e (w.setCell p u) base (fun _ => True) v xs :=
  Kd.R_mono (Kd.R_far (Kd.R_tight hE h) (fun k hk hp => hne (hp ▸ hk)) u) (fun _ _ => trivial)
theorem R_on {α : Type} {d : Kd α} {e : Nat} {w w' : World} {base : Nat} {ok : Nat → Prop} {v : Value} {xs : List α} (hE : d.E = []) (h : d.R e w base ok v xs) {row : Option Nat} (hg : w.grownBy w' row) (hne : row ≠ v.ownBlock) : d.R e w' base (fun _ => True) v xs :=
  Kd.R_mono (Kd.R_step (Kd.R_tight hE h) (fun k hk hlt => hg.block k hlt (fun c => hne (c ▸ hk)))) (fun _ _ => trivial)
theorem R_up {α : Type} {d : Kd α} {e : Nat} {w w' : World} {base : Nat} {ok : Nat → Prop} {v : Value} {xs : List α} (h : d.R e w base ok v xs) (hb : Below w.heap.size w w') : d.R e w' base (fun _ => True) v xs :=
  Kd.R_mono (Kd.R_step h (fun k hk hlt => hb.block k hlt)) (fun _ _ => trivial)
end Go.Proofs.Ytpdnabhpkdchjaa.P
namespace Go.Proofs.Ytpdnabhpkdchjaa.P
open Go.RowKit Go.Proofs.YtpdnabhpkdchjaaW.PrintWords Go.Proofs.YtpdnabhpkdchjaaW.PrintLast Go.Proofs.YtpdnabhpkdchjaaW.PrintMore
attribute [local go_sem ↓] Go.wp_at_zero Go.wp_at_succ
set_option linter.unusedVariables false
set_option linter.unusedSimpArgs false
structure DoSt (w0 w : World) (gl gs ge gd : Nat) (lv sv ev dv : List Value) (v1 v2 : Value) (ss : List S50) (dd : List Bool) : Prop where
  hl : w.heap[gl]? = some (.cells lv.toArray 30 (0, 0))
  hs : w.heap[gs]? = some (.cells sv.toArray 46 (0, 0))
  he : w.heap[ge]? = some (.cells ev.toArray 56 (0, 0))
  hd : w.heap[gd]? = some (.cells dv.toArray 48 (0, 0))
  H1 : Kd.R k50 50 w w0.heap.size (fun _ => True) v1 ss
  H2 : Kd.R Kd.bool 4 w w0.heap.size (fun _ => True) v2 dd
  hB : Below w0.heap.size w0 w
  gle : w0.heap.size ≤ gl
  gse : w0.heap.size ≤ gs
  gee : w0.heap.size ≤ ge
  gde : w0.heap.size ≤ gd
theorem DoSt.begin {w0 w : World} {gl gs ge gd : Nat} {lv ev dv : List Value} {x0 x1 x2 v0 v1 v2 : Value} {ss : List S50} {dd : List Bool}
    (hl : w.heap[gl]? = some (.cells lv.toArray 30 (0, 0))) (hs : w.heap[gs]? = some (.cells #[x0, x1, x2] 46 (0, 0))) (he : w.heap[ge]? = some (.cells ev.toArray 56 (0, 0))) (hd : w.heap[gd]? = some (.cells dv.toArray 48 (0, 0)))
    (H1 : Kd.R k50 50 w w0.heap.size (fun _ => True) v1 ss) (H2 : Kd.R Kd.bool 4 w w0.heap.size (fun _ => True) v2 dd) (hB : Below w0.heap.size w0 w)
    (gle : w0.heap.size ≤ gl) (gse : w0.heap.size ≤ gs) (gee : w0.heap.size ≤ ge) (gde : w0.heap.size ≤ gd) (n1 : gl ≠ gs) (n2 : ge ≠ gs) (n3 : gd ≠ gs) :
    DoSt w0 (((w.setCell ⟨gs, 0, none⟩ v0).setCell ⟨gs, 1, none⟩ v1).setCell ⟨gs, 2, none⟩ v2) gl gs ge gd lv [v0, v1, v2] ev dv v1 v2 ss dd where
  hl := blk_far (blk_far (blk_far hl n1 _) n1 _) n1 _
  hs := blk_put (blk_put (blk_put hs 0 v0 rfl) 1 v1 rfl) 2 v2 rfl
  he := blk_far (blk_far (blk_far he n2 _) n2 _) n2 _
  hd := blk_far (blk_far (blk_far hd n3 _) n3 _) n3 _
  H1 := R_off rfl (R_off rfl (R_off rfl H1 (Kd.R_ne H1 hs (by decide)) _) (Kd.R_ne H1 hs (by decide)) _) (Kd.R_ne H1 hs (by decide)) _
  H2 := R_off rfl (R_off rfl (R_off rfl H2 (Kd.R_ne H2 hs (by decide)) _) (Kd.R_ne H2 hs (by decide)) _) (Kd.R_ne H2 hs (by decide)) _
  hB := below_set (below_set (below_set hB gse) gse) gse
  gle := gle
  gse := gse
  gee := gee
  gde := gde
theorem cnt_any (s b : Int) (bo : Bool) (g gr n c : Nat) (v2 : Value) (l : List S50) (w : World) (base : Nat) (ok : Nat → Prop) (h1 : s < n)
    (hb : w.heap[g]? = some (.cells #[.bool bo, .slice (some ⟨gr, 0, none⟩) n c, v2] 46 (0, 0))) (HO : Kd.R k50 50 w base ok (.slice (some ⟨gr, 0, none⟩) n c) l) :
    Calls Try.prog 130 #[.int .i64 s, .int .i64 b, .pointer (some ⟨g, 0, none⟩)] w fun e w' => e = .returned (.tuple #[]) ∧ Kd.R k50 50 w' base ok (.slice (some ⟨gr, 0, none⟩) n c) (addS l s b) ∧ w.grownBy w' (some gr) := by
  by_cases h0 : s < 0
  · refine (cnt_out s b _ w h0).mono ?_
    rintro e w' ⟨he, rfl⟩
    exact ⟨he, by rw [addS, if_pos h0]; exact HO, World.grownBy.refl w _⟩
  · rw [addS, if_neg h0]
    exact cnt_calls s b bo g gr n c v2 l w base ok (by omega) h1 hb HO
theorem lose_any (s : Int) (bo : Bool) (g gr n c : Nat) (v2 : Value) (l : List S50) (w : World) (base : Nat) (ok : Nat → Prop) (h1 : s < n)
    (hb : w.heap[g]? = some (.cells #[.bool bo, .slice (some ⟨gr, 0, none⟩) n c, v2] 46 (0, 0))) (HO : Kd.R k50 50 w base ok (.slice (some ⟨gr, 0, none⟩) n c) l) :
    Calls Try.prog 131 #[.int .i64 s, .pointer (some ⟨g, 0, none⟩)] w fun e w' => e = .returned (.tuple #[]) ∧ Kd.R k50 50 w' base ok (.slice (some ⟨gr, 0, none⟩) n c) (loseAt l s) ∧ w.grownBy w' (some gr) := by
  by_cases h0 : s < 0
  · refine (lose_none s _ w h0).mono ?_
    rintro e w' ⟨he, rfl⟩
    exact ⟨he, by rw [loseAt, if_pos h0]; exact HO, World.grownBy.refl w _⟩
  · rw [loseAt, if_neg h0]
    exact lose_calls s bo g gr n c v2 l w base ok (by omega) h1 hb HO
theorem told_at {n : Int} {A : Option Addr} {c : Nat} {l : List S88} {b : Bool} {A1 : Option Addr} {c1 : Nat} {ss : List S50} {A2 : Option Addr} {c2 : Nat} {dd : List Bool} {w : World} (i : Int) (hr : Kd.C k88 w A l.length l) (hc : l.length ≤ c) (hr1 : Kd.C k50 w A1 ss.length ss) (hc1 : ss.length ≤ c1) (hr2 : Kd.C Kd.bool w A2 dd.length dd) (hc2 : dd.length ≤ c2)
    (hl : l.length ≤ 1048576) (hd : dd.length = l.length) (h0 : 0 ≤ i) (h1 : i < ss.length) :
    Calls Try.prog 97 #[.agg #[.int .i64 n, .slice A l.length c], .agg #[.bool b, .slice A1 ss.length c1, .slice A2 dd.length c2], .int .i64 i] w fun e w' => e = .returned (.int .i64 (toldC l dd i (rd_T50 ss i))) ∧ Below w.heap.size w w' := by
  obtain ⟨k, h⟩ := (implTold_ev n l dd b ss i hl hd h0 h1).rounds
  exact impl_told.calls k n A c l b A1 c1 ss A2 c2 dd i _ w hr hc hr1 hc1 hr2 hc2 h
theorem dead_at {n : Int} {A : Option Addr} {c : Nat} {l : List S88} {b : Bool} {A1 : Option Addr} {c1 : Nat} {ss : List S50} {A2 : Option Addr} {c2 : Nat} {dd : List Bool} {w : World} {x : Bool} (i : Int) (hx : deadAt l dd i = x) (hr : Kd.C k88 w A l.length l) (hc : l.length ≤ c) (hr1 : Kd.C k50 w A1 ss.length ss) (hc1 : ss.length ≤ c1) (hr2 : Kd.C Kd.bool w A2 dd.length dd) (hc2 : dd.length ≤ c2)
    (hl : l.length ≤ 1048576) (hd : dd.length = l.length) :
    Calls Try.prog 98 #[.agg #[.int .i64 n, .slice A l.length c], .agg #[.bool b, .slice A1 ss.length c1, .slice A2 dd.length c2], .int .i64 i] w fun e w' => e = .returned (.bool x) ∧ Below w.heap.size w w' := by
  obtain ⟨k, h⟩ := (implDead_ev n l dd b ss i hl hd).rounds
  rw [← hx]
  exact impl_dead.calls k n A c l b A1 c1 ss A2 c2 dd i _ w hr hc hr1 hc1 hr2 hc2 h
theorem bool_at {w : World} {base : Nat} {ok : Nat → Prop} {g n c : Nat} {dd : List Bool} (h : Kd.R Kd.bool 4 w base ok (.slice (some ⟨g, 0, none⟩) n c) dd) (i : Int) (h0 : 0 ≤ i) (h1 : i < n) :
    w.cell? ⟨g, i.toNat, none⟩ = some (.bool (rdOf false dd i)) ∧ w.frozen? ⟨g, i.toNat, none⟩ = false := by
  obtain ⟨ce, hcl, hM, hcc, hfr⟩ := Kd.R_elem h false i h0 h1
  have hM0 : ce = [.bool (dd.getD i.toNat false)] := hM
  subst hM0
  have e : i.toNat * Kd.bool.sz + 0 = i.toNat := by show i.toNat * 1 + 0 = _; omega
  have q1 := hcc 0 _ rfl
  have q2 := hfr 0
  rw [e] at q1 q2
  exact ⟨q1, q2⟩
theorem own_ge {α : Type} {d : Kd α} {e : Nat} {w : World} {base : Nat} {ok : Nat → Prop} {g n c : Nat} {xs : List α} (h : d.R e w base ok (.slice (some ⟨g, 0, none⟩) n c) xs) : base ≤ g := by
  rcases Kd.R_base2 h with h | ⟨k, hk, hb⟩
  · cases h
  · cases hk; exact hb
section
variable {w0 w w' : World} {gl gs ge gd : Nat} {lv sv ev dv : List Value} {v1 v2 : Value} {ss ss' : List S50} {dd dd' : List Bool}
theorem DoSt.sec {gr m cr : Nat} (h : DoSt w0 w gl gs ge gd lv sv ev dv (.slice (some ⟨gr, 0, none⟩) m cr) v2 ss dd) (H1 : Kd.R k50 50 w' w0.heap.size (fun _ => True) (.slice (some ⟨gr, 0, none⟩) m cr) ss') (hg : w.grownBy w' (some gr)) :
    DoSt w0 w' gl gs ge gd lv sv ev dv (.slice (some ⟨gr, 0, none⟩) m cr) v2 ss' dd where
  hl := blk_grown h.hl hg (Kd.R_ne h.H1 h.hl (by decide))
  hs := blk_grown h.hs hg (Kd.R_ne h.H1 h.hs (by decide))
  he := blk_grown h.he hg (Kd.R_ne h.H1 h.he (by decide))
  hd := blk_grown h.hd hg (Kd.R_ne h.H1 h.hd (by decide))
  H1 := H1
  H2 := R_on rfl h.H2 hg (by
    obtain ⟨inner, ho⟩ := Kd.R_own h.H1
    obtain ⟨cells, hc⟩ := own_typed ho gr rfl
    exact Kd.R_ne h.H2 hc (by decide))
  hB := pw_below_grown h.hB _ h.hB.size hg (fun k hk => by cases hk; exact own_ge h.H1)
  gle := h.gle
  gse := h.gse
  gee := h.gee
  gde := h.gde
theorem DoSt.dead {gb m cb : Nat} (h : DoSt w0 w gl gs ge gd lv sv ev dv v1 (.slice (some ⟨gb, 0, none⟩) m cb) ss dd) (i : Int) (x : Bool) :
    DoSt w0 (w.setCell ⟨gb, i.toNat, none⟩ (.bool x)) gl gs ge gd lv sv ev dv v1 (.slice (some ⟨gb, 0, none⟩) m cb) ss (dd.set i.toNat x) := by
  obtain ⟨H2, hg⟩ := Kd.R_putg h.H2 i x
  exact {
  hl := blk_grown h.hl hg (Kd.R_ne h.H2 h.hl (by decide))
  hs := blk_grown h.hs hg (Kd.R_ne h.H2 h.hs (by decide))
  he := blk_grown h.he hg (Kd.R_ne h.H2 h.he (by decide))
  hd := blk_grown h.hd hg (Kd.R_ne h.H2 h.hd (by decide))
  H1 := R_on rfl h.H1 hg (by
    obtain ⟨inner, ho⟩ := Kd.R_own h.H2
    obtain ⟨cells, hc⟩ := own_typed ho gb rfl
    exact Kd.R_ne h.H1 hc (by decide))
  H2 := H2
  hB := pw_below_grown h.hB _ h.hB.size hg (fun k hk => by cases hk; exact own_ge h.H2)
  gle := h.gle
  gse := h.gse
  gee := h.gee
  gde := h.gde }
theorem DoSt.up (h : DoSt w0 w gl gs ge gd lv sv ev dv v1 v2 ss dd) (hb : Below w.heap.size w w') : DoSt w0 w' gl gs ge gd lv sv ev dv v1 v2 ss dd where
  hl := blk_below h.hl hb
  hs := blk_below h.hs hb
  he := blk_below h.he hb
  hd := blk_below h.hd hb
  H1 := R_up h.H1 hb
  H2 := R_up h.H2 hb
  hB := below_step h.hB hb
  gle := h.gle
  gse := h.gse
  gee := h.gee
  gde := h.gde
theorem DoSt.fill {x0 x1 x2 x3 y0 y1 y2 y3 : Value} (h : DoSt w0 w gl gs ge gd lv sv ev [x0, x1, x2, x3] v1 v2 ss dd) :
    DoSt w0 ((((w.setCell ⟨gd, 0, none⟩ y0).setCell ⟨gd, 1, none⟩ y1).setCell ⟨gd, 2, none⟩ y2).setCell ⟨gd, 3, none⟩ y3) gl gs ge gd lv sv ev [y0, y1, y2, y3] v1 v2 ss dd where
  hl := blk_far (blk_far (blk_far (blk_far h.hl (blk_ne h.hl h.hd (by decide)) _) (blk_ne h.hl h.hd (by decide)) _) (blk_ne h.hl h.hd (by decide)) _) (blk_ne h.hl h.hd (by decide)) _
  hs := blk_far (blk_far (blk_far (blk_far h.hs (blk_ne h.hs h.hd (by decide)) _) (blk_ne h.hs h.hd (by decide)) _) (blk_ne h.hs h.hd (by decide)) _) (blk_ne h.hs h.hd (by decide)) _
  he := blk_far (blk_far (blk_far (blk_far h.he (blk_ne h.he h.hd (by decide)) _) (blk_ne h.he h.hd (by decide)) _) (blk_ne h.he h.hd (by decide)) _) (blk_ne h.he h.hd (by decide)) _
  hd := blk_put (blk_put (blk_put (blk_put h.hd 0 y0 rfl) 1 y1 rfl) 2 y2 rfl) 3 y3 rfl
  H1 := R_off rfl (R_off rfl (R_off rfl (R_off rfl h.H1 (Kd.R_ne h.H1 h.hd (by decide)) _) (Kd.R_ne h.H1 h.hd (by decide)) _) (Kd.R_ne h.H1 h.hd (by decide)) _) (Kd.R_ne h.H1 h.hd (by decide)) _
  H2 := R_off rfl (R_off rfl (R_off rfl (R_off rfl h.H2 (Kd.R_ne h.H2 h.hd (by decide)) _) (Kd.R_ne h.H2 h.hd (by decide)) _) (Kd.R_ne h.H2 h.hd (by decide)) _) (Kd.R_ne h.H2 h.hd (by decide)) _
  hB := below_set (below_set (below_set (below_set h.hB h.gde) h.gde) h.gde) h.gde
  gle := h.gle
  gse := h.gse
  gee := h.gee
  gde := h.gde
end
theorem evOk_cases {n : Int} {l : List S88} {op of dir : Int} (h : eventOk n l op of dir = true) :
    ((op = 1 ∨ op = 2) ∧ 0 ≤ of ∧ of < (l.length : Int) ∧ (dir = 1 ∨ dir = -1)) ∨ ((op = 3 ∨ op = 4) ∧ 0 ≤ of ∧ of < (l.length : Int)) ∨ (op = 5 ∧ 0 ≤ of ∧ of < n) := by
  unfold eventOk at h
  split at h
  · split at h
    · rename_i h1
      simp at h
      exact .inl ⟨h1, h.1.1, h.1.2, h.2⟩
    · split at h
      · rename_i h1
        simp at h
        exact .inr (.inl ⟨h1, h.1.1, h.1.2⟩)
      · split at h
        · rename_i h1
          simp at h
          exact .inr (.inr ⟨h1, h.1.1, h.1.2⟩)
        · cases h
  · cases h
theorem told_of {n : Int} {A : Option Addr} {c : Nat} {l : List S88} {b : Bool} {A1 : Option Addr} {m1 c1 : Nat} {ss : List S50} {A2 : Option Addr} {m2 c2 : Nat} {dd : List Bool} {w : World} {b1 b2 : Nat} {o1 o2 : Nat → Prop} (i : Int) (hr : Kd.C k88 w A l.length l) (hc : l.length ≤ c) (H1 : Kd.R k50 50 w b1 o1 (.slice A1 m1 c1) ss) (H2 : Kd.R Kd.bool 4 w b2 o2 (.slice A2 m2 c2) dd) (e1 : m1 = ss.length) (e2 : m2 = dd.length)
    (hl : l.length ≤ 1048576) (hd : dd.length = l.length) (h0 : 0 ≤ i) (h1 : i < m1) :
    Calls Try.prog 97 #[.agg #[.int .i64 n, .slice A l.length c], .agg #[.bool b, .slice A1 m1 c1, .slice A2 m2 c2], .int .i64 i] w fun e w' => e = .returned (.int .i64 (toldC l dd i (rd_T50 ss i))) ∧ Below w.heap.size w w' := by
  subst e1 e2
  exact told_at i hr hc (Kd.R_reads' H1).2.2 (Kd.R_reads' H1).2.1 (Kd.R_reads' H2).2.2 (Kd.R_reads' H2).2.1 hl hd h0 h1
theorem retold_step (l : List S88) (dd : List Bool) (ss : List S50) (k : Nat) (hk : k < ss.length) :
    (retoldTo l dd ss k).set (k : Int).toNat ⟨toldC l dd (k : Int) (rd_T50 (retoldTo l dd ss k) (k : Int)), (rd_T50 (retoldTo l dd ss k) (k : Int)).f1, (rd_T50 (retoldTo l dd ss k) (k : Int)).f2, (rd_T50 (retoldTo l dd ss k) (k : Int)).f3, (rd_T50 (retoldTo l dd ss k) (k : Int)).f4⟩ = retoldTo l dd ss (k + 1) := by
  rw [Int.toNat_natCast, retoldTo_at l dd ss k hk]
  exact retoldTo_succ l dd ss k hk
set_option maxHeartbeats 4000000 in
set_option maxRecDepth 100000 in
theorem do_is (n : Int) (A : Option Addr) (c : Nat) (l : List S88) (b : Bool) (A1 : Option Addr) (c1 : Nat) (ss : List S50) (A2 : Option Addr) (c2 : Nat) (dd : List Bool) (op of dir : Int) (w : World)
    (hr : Kd.C k88 w A l.length l) (hc : l.length ≤ c) (hr1 : Kd.C k50 w A1 ss.length ss) (hc1 : ss.length ≤ c1) (hr2 : Kd.C Kd.bool w A2 dd.length dd) (hc2 : dd.length ≤ c2)
    (hl : layoutOk n l = 0) (hns : (ss.length : Int) = n) (hnd : dd.length = l.length) (hev : eventOk n l op of dir = true) :
    Calls Try.prog 96 #[.agg #[.int .i64 n, .slice A l.length c], .agg #[.bool b, .slice A1 ss.length c1, .slice A2 dd.length c2], .agg #[.int .i64 op, .int .i64 of, .int .i64 dir]] w fun e w' => ∃ v2_ v3_ : Value, e = .returned (.agg #[.int .i64 (doCode l ss dd op of), .bool true, v2_, v3_]) ∧ Kd.R k50 50 w' w.heap.size (fun _ => True) v2_ (doSecs l ss dd op of dir) ∧ Kd.R Kd.bool 4 w' w.heap.size (fun _ => True) v3_ (doDead l ss dd op of) ∧ Below w.heap.size w w' := by
  have hn := lay_n hl
  have hs : ss.length ≤ 1000000 := by omega
  have hd : dd.length ≤ 1000000 := by omega
  have hpos : 0 < ss.length := by omega
  have HN := Aside0.mk (And.intro hl (And.intro hns (And.intro hnd hev)))
  clear hn hl hns hnd hev
  have f1 : impl_Section.f ss = some ss := by unfold impl_Section.f; rw [if_pos hs]
  have f2 : slices_Clone_bool_bool.f dd = some dd := by unfold slices_Clone_bool_bool.f; rw [if_pos hd]
  have HR := Aside0.mk hr
  have HR1 := Aside0.mk hr1
  have HR2 := Aside0.mk hr2
  clear hr hr1 hr2
  go_enter Try.func96, Try.ntmps96
  go_upto_region 1 with (first | ((with_reducible refine gate_dst (N := 3) rfl ?_); refine box_event ?hg (N := 3) ?hd (cs := #[.int .i64 n, .slice A l.length c]) (t := 30) ?hr ?_; (case hd => rfl); (case hg => rfl); (case hr => first | (go_simp; done) | (go_simp; rfl)); intro gl el wl kl bl) | ((with_reducible refine gate_dst (N := 4) rfl ?_); refine box_event ?hg (N := 4) ?hd (cs := #[.bool b, .slice A1 ss.length c1, .slice A2 dd.length c2]) (t := 46) ?hr ?_; (case hd => rfl); (case hg => rfl); (case hr => first | (go_simp; done) | (go_simp; rfl)); intro gs es ws ks bs) | ((with_reducible refine gate_dst (N := 5) rfl ?_); refine box_event ?hg (N := 5) ?hd (cs := #[.int .i64 op, .int .i64 of, .int .i64 dir]) (t := 56) ?hr ?_; (case hd => rfl); (case hg => rfl); (case hr => first | (go_simp; done) | (go_simp; rfl)); intro ge ee we ke be) | ((with_reducible refine gate_dst (N := 6) rfl ?_); refine box_event ?hg (N := 6) ?hd (cs := #[.int .i64 0, .bool false, .slice none 0 0, .slice none 0 0]) (t := 48) ?hr ?_; (case hd => rfl); (case hg => rfl); (case hr => first | (go_simp; done) | (go_simp; rfl)); intro gd ed wd kd_ bd))
  have KL := Aside0.mk (blk_below (blk_below (blk_below kl bs) be) bd)
  have KS := Aside0.mk (blk_below (blk_below ks be) bd)
  have KE := Aside0.mk (blk_below ke bd)
  have KD := Aside0.mk kd_
  have BB := Aside0.mk (below_step (below_step (below_step bl bs) be) bd)
  have GL := Aside0.mk (show w.heap.size ≤ gl by rw [el]; exact Nat.le_refl _)
  have GS := Aside0.mk (show w.heap.size ≤ gs by rw [es]; exact bl.size)
  have GE := Aside0.mk (show w.heap.size ≤ ge by rw [ee]; exact (below_step bl bs).size)
  have GD := Aside0.mk (show w.heap.size ≤ gd by rw [ed]; exact (below_step (below_step bl bs) be).size)
  clear kl ks ke kd_ bl bs be bd el es ee ed
  simp only [Act.put, List.setIfInBounds_toArray, List.set_cons_zero, List.set_cons_succ]
  go_cut [] from 12 to 18 (fun wx => ∃ v1 v2 : Value, DoSt w wx gl gs ge gd [.int .i64 n, .slice A l.length c] [.bool true, v1, v2] [.int .i64 op, .int .i64 of, .int .i64 dir] [.int .i64 0, .bool false, .slice none 0 0, .slice none 0 0] v1 v2 ss dd)
  case first =>
    have e1 : wd.drew.cell? ⟨gs, 1, none⟩ = some (.slice A1 ss.length c1) := (blk_cell (blk_drew KS.out) 1).trans rfl
    have e2 : wd.drew.cell? ⟨gs, 2, none⟩ = some (.slice A2 dd.length c2) := (blk_cell (blk_drew KS.out) 2).trans rfl
    have kx := Aside0.mk (blk_drew KS.out)
    have bx := Aside0.mk (below_drew1 BB.out)
    have by_ := Aside0.mk (below_drew1 (Below.refl wd.heap.size wd))
    go_region_with (first | (go_at_call 94; refine (impl_Section.calls A1 c1 ss ss _ (Kd.C_below HR1.out bx.out) hc1 f1).mono ?_; rintro e w' ⟨v1, rfl, ho1, hb1⟩; obtain ⟨Aa, ca, rfl⟩ := Kd.R_slice ho1; have kx := Aside0.mk (blk_below kx.out hb1); have c0_ : w'.cell? ⟨gs, 0, none⟩ = some (.bool b) := (blk_cell kx.out 0).trans rfl; have c1_ : w'.cell? ⟨gs, 1, none⟩ = some (.slice A1 ss.length c1) := (blk_cell kx.out 1).trans rfl; have c2_ : w'.cell? ⟨gs, 2, none⟩ = some (.slice A2 dd.length c2) := (blk_cell kx.out 2).trans rfl; have z0_ := blk_frozen kx.out 0; have z1_ := blk_frozen kx.out 1; have z2_ := blk_frozen kx.out 2; have HO1 := Aside0.mk (Kd.R_lower ho1 bx.out.size); (try (have HO2 := Aside0.mk (R_up HO2.out hb1))); have bx := Aside0.mk (below_step bx.out hb1); have by_ := Aside0.mk (below_step by_.out hb1); clear hb1 ho1) | (go_at_call 95; refine (slices_Clone_bool_bool.calls A2 c2 dd dd _ (Kd.C_below HR2.out bx.out) hc2 f2).mono ?_; rintro e w' ⟨v2, rfl, ho2, hb2⟩; obtain ⟨Ab, cb, rfl⟩ := Kd.R_slice ho2; have kx := Aside0.mk (blk_below kx.out hb2); have c0_ : w'.cell? ⟨gs, 0, none⟩ = some (.bool b) := (blk_cell kx.out 0).trans rfl; have c1_ : w'.cell? ⟨gs, 1, none⟩ = some (.slice A1 ss.length c1) := (blk_cell kx.out 1).trans rfl; have c2_ : w'.cell? ⟨gs, 2, none⟩ = some (.slice A2 dd.length c2) := (blk_cell kx.out 2).trans rfl; have z0_ := blk_frozen kx.out 0; have z1_ := blk_frozen kx.out 1; have z2_ := blk_frozen kx.out 2; have HO2 := Aside0.mk (Kd.R_lower ho2 bx.out.size); (try (have HO1 := Aside0.mk (R_up HO1.out hb2))); have bx := Aside0.mk (below_step bx.out hb2); have by_ := Aside0.mk (below_step by_.out hb2); clear hb2 ho2))
    all_goals (go_wp2_with fail; go_meet)
    all_goals exact ⟨_, _, DoSt.begin (blk_below KL.out by_.out) kx.out (blk_below KE.out by_.out) (blk_below KD.out by_.out) HO1.out HO2.out bx.out GL.out GS.out GE.out GD.out (blk_ne KL.out KS.out (by decide)) (blk_ne KE.out KS.out (by decide)) (blk_ne KD.out KS.out (by decide))⟩
  case rest =>
    obtain ⟨v1, v2, ST⟩ := hcut
    obtain ⟨gr, cr, e1, _, _, _⟩ := Kd.R_form ST.H1 hpos
    obtain ⟨Ad, cd, e2⟩ := Kd.R_slice ST.H2
    subst e1 e2
    have SA := Aside0.mk (show DoSt w wc gl gs ge gd [.int .i64 n, .slice A l.length c] [.bool true, .slice (some ⟨gr, 0, none⟩) ss.length cr, .slice Ad dd.length cd] [.int .i64 op, .int .i64 of, .int .i64 dir] [.int .i64 0, .bool false, .slice none 0 0, .slice none 0 0] (.slice (some ⟨gr, 0, none⟩) ss.length cr) (.slice Ad dd.length cd) ss dd from ST)
    have ce0 : wc.cell? ⟨ge, 0, none⟩ = some (.int .i64 op) := (blk_cell ST.he 0).trans rfl
    have ce1 : wc.cell? ⟨ge, 1, none⟩ = some (.int .i64 of) := (blk_cell ST.he 1).trans rfl
    have ce2 : wc.cell? ⟨ge, 2, none⟩ = some (.int .i64 dir) := (blk_cell ST.he 2).trans rfl
    have cs1 : wc.cell? ⟨gs, 1, none⟩ = some (.slice (some ⟨gr, 0, none⟩) ss.length cr) := (blk_cell ST.hs 1).trans rfl
    have cs2 : wc.cell? ⟨gs, 2, none⟩ = some (.slice Ad dd.length cd) := (blk_cell ST.hs 2).trans rfl
    have cs0 : wc.cell? ⟨gs, 0, none⟩ = some (.bool true) := (blk_cell ST.hs 0).trans rfl
    have cl0 : wc.cell? ⟨gl, 0, none⟩ = some (.int .i64 n) := (blk_cell ST.hl 0).trans rfl
    have cl1 : wc.cell? ⟨gl, 1, none⟩ = some (.slice A l.length c) := (blk_cell ST.hl 1).trans rfl
    clear ST KL KS KE KD BB
    go_upto_block 0 with fail
    go_cut [] from 9 to 115 (fun wx => Aside0 (DoSt w wx gl gs ge gd [.int .i64 n, .slice A l.length c] [.bool true, .slice (some ⟨gr, 0, none⟩) ss.length cr, .slice Ad dd.length cd] [.int .i64 op, .int .i64 of, .int .i64 dir] [.int .i64 0, .bool false, .slice none 0 0, .slice none 0 0] (.slice (some ⟨gr, 0, none⟩) ss.length cr) (.slice Ad dd.length cd) (midSecs l ss op of dir) (midDead dd op of)) ∧ Aside0 (doCode l ss dd op of = 0))
    case first =>
      obtain ⟨hl, hns, hnd, hev⟩ := HN.out
      have hln := lay_n hl
      have HL2 := Aside0.mk hln
      rcases evOk_cases hev with ⟨hop, ho0, ho1, hdir⟩ | ⟨hop, ho0, ho1⟩ | ⟨rfl, ho0, ho1⟩
      · have lr := lay_rd hl of ho0 ho1
        have ho2 := ho1
        rw [← hnd] at ho1
        obtain ⟨gb, cb, e, _, _, _⟩ := Kd.R_form SA.out.H2 (show 0 < dd.length by omega)
        cases e
        obtain ⟨x0, xf⟩ := bool_at SA.out.H2 of ho0 ho1
        obtain ⟨ad, e, y0, y1⟩ := at_T88 HR.out of ho0 (by omega)
        subst e
        have lr0 : (rd_T88 l of).f0 < (ss.length : Int) := by omega
        have lr1 : (rd_T88 l of).f1 < (ss.length : Int) := by omega
        have LR0 := Aside0.mk lr0
        have LR1 := Aside0.mk lr1
        clear lr lr0 lr1 hl hns hnd hev hln
        have Y0 := Aside0.mk y0
        have Y1 := Aside0.mk y1
        clear y0 y1
        rcases Bool.eq_false_or_eq_true (rdOf false dd of) with hdo | hdo
        · rw [hdo] at x0
          have HDO := Aside0.mk hdo
          clear hdo
          have hc2 : doCode l ss dd op of = 2 := by unfold doCode; rw [if_pos hop, if_pos HDO.out]
          have HC2 := Aside0.mk hc2
          clear hc2
          have kd0 := (blk_cell SA.out.hd 0).trans (show _ = some (Value.int .i64 0) from rfl)
          have kd1 := (blk_cell SA.out.hd 1).trans (show _ = some (Value.bool false) from rfl)
          have kd2 := (blk_cell SA.out.hd 2).trans (show _ = some (Value.slice none 0 0) from rfl)
          have kd3 := (blk_cell SA.out.hd 3).trans (show _ = some (Value.slice none 0 0) from rfl)
          have kz0 := blk_frozen SA.out.hd 0
          have kz1 := blk_frozen SA.out.hd 1
          have kz2 := blk_frozen SA.out.hd 2
          have kz3 := blk_frozen SA.out.hd 3
          rcases hop with rfl | rfl
          all_goals
            go_wp2_with fail
            have SF := SA.out.fill (y0 := .int .i64 2) (y1 := .bool true) (y2 := (.slice (some ⟨gr, 0, none⟩) ss.length cr)) (y3 := (.slice (some ⟨gb, 0, none⟩) dd.length cd))
            refine bodyPost_ret (results_cell_row rfl _ _ gd 48 _ (0, 0) _ rfl SF.hd Try.underlying48 rfl (by kernel_rfl)) rfl ⟨_, _, by rw [HC2.out], ?_, ?_, SF.hB⟩
            · unfold doSecs; rw [HC2.out]; exact SF.H1
            · unfold doDead; rw [HC2.out]; exact SF.H2
        · rw [hdo] at x0
          have HDO := Aside0.mk hdo
          clear hdo
          have y0 := pw_cell_below SA.out.hB Y0.out
          have y1 := pw_cell_below SA.out.hB Y1.out
          rcases hdir with rfl | rfl
          · rcases hop with rfl | rfl
            · go_upto_region 12 with (first | ((with_reducible refine gate_dst (N := 9) rfl ?_); refine box_event ?hg (N := 9) ?hd (cs := #[.int .i64 0, .int .i64 0]) (t := 88) ?hr ?_; (case hd => rfl); (case hg => rfl); (case hr => first | (go_simp; done) | (go_simp; rfl)); intro gc ec wb kc bc; have KC := Aside0.mk kc; have EC := Aside0.mk ec; have BC := Aside0.mk bc; have zc0 := blk_frozen kc 0; have zc1 := blk_frozen kc 1; have kc0 := (blk_cell kc 0).trans (show _ = some (Value.int .i64 0) from rfl); have kc1 := (blk_cell kc 1).trans (show _ = some (Value.int .i64 0) from rfl); have e0 := pw_cell_below bc ce0; have e1 := pw_cell_below bc ce1; have e2 := pw_cell_below bc ce2; have ss1 := pw_cell_below bc cs1; have ss2 := pw_cell_below bc cs2; clear kc ec bc))
              have KX := Aside0.mk (blk_put (blk_put KC.out 0 (.int .i64 (rd_T88 l of).f0) rfl) 1 (.int .i64 (rd_T88 l of).f1) rfl)
              have BX := Aside0.mk (below_set (j := 1) (v := (.int .i64 (rd_T88 l of).f1)) (below_set (j := 0) (v := (.int .i64 (rd_T88 l of).f0)) BC.out (Nat.le_of_eq EC.out.symm)) (Nat.le_of_eq EC.out.symm))
              have S1 := Aside0.mk (SA.out.up BX.out)
              clear SA ce0 ce1 ce2 cs0 cs1 cs2 cl0 cl1 x0 xf KC BC BX zc0 zc1 kc0 kc1 e0 e1 e2 ss1 ss2 y0 y1 EC
              generalize ((wb.setCell ⟨gc, 0, none⟩ (.int .i64 (rd_T88 l of).f0)).setCell ⟨gc, 1, none⟩ (.int .i64 (rd_T88 l of).f1)) = w1 at S1 KX ⊢
              have kge0 : w1.cell? ⟨ge, 0, none⟩ = some (.int .i64 1) := (blk_cell S1.out.he 0).trans rfl
              have kge1 : w1.cell? ⟨ge, 1, none⟩ = some (.int .i64 of) := (blk_cell S1.out.he 1).trans rfl
              have kge2 : w1.cell? ⟨ge, 2, none⟩ = some (.int .i64 1) := (blk_cell S1.out.he 2).trans rfl
              have kgs0 : w1.cell? ⟨gs, 0, none⟩ = some (.bool true) := (blk_cell S1.out.hs 0).trans rfl
              have kgs1 : w1.cell? ⟨gs, 1, none⟩ = some (.slice (some ⟨gr, 0, none⟩) ss.length cr) := (blk_cell S1.out.hs 1).trans rfl
              have kgs2 : w1.cell? ⟨gs, 2, none⟩ = some (.slice (some ⟨gb, 0, none⟩) dd.length cd) := (blk_cell S1.out.hs 2).trans rfl
              have kgl0 : w1.cell? ⟨gl, 0, none⟩ = some (.int .i64 n) := (blk_cell S1.out.hl 0).trans rfl
              have kgl1 : w1.cell? ⟨gl, 1, none⟩ = some (.slice (some ad) l.length c) := (blk_cell S1.out.hl 1).trans rfl
              have kc0 : w1.cell? ⟨gc, 0, none⟩ = some (.int .i64 (rd_T88 l of).f0) := (blk_cell KX.out 0).trans rfl
              have kc1 : w1.cell? ⟨gc, 1, none⟩ = some (.int .i64 (rd_T88 l of).f1) := (blk_cell KX.out 1).trans rfl
              go_upto_region 14 with (go_at_call 130; refine (cnt_any _ _ true gs gr ss.length cr _ _ _ _ _ LR0.out S1.out.hs S1.out.H1).mono ?_; rintro e w2 ⟨rfl, hR, hg⟩; have S2 := Aside0.mk (S1.out.sec hR hg); have KY := Aside0.mk (blk_grown KX.out hg (Kd.R_ne S1.out.H1 KX.out (by decide))); clear hR hg)
              clear kge0 kge1 kge2 kgs0 kgs1 kgs2 kgl0 kgl1
              clear kc0 kc1 S1 KX
              have kge0 : w2.cell? ⟨ge, 0, none⟩ = some (.int .i64 1) := (blk_cell S2.out.he 0).trans rfl
              have kge1 : w2.cell? ⟨ge, 1, none⟩ = some (.int .i64 of) := (blk_cell S2.out.he 1).trans rfl
              have kge2 : w2.cell? ⟨ge, 2, none⟩ = some (.int .i64 1) := (blk_cell S2.out.he 2).trans rfl
              have kgs0 : w2.cell? ⟨gs, 0, none⟩ = some (.bool true) := (blk_cell S2.out.hs 0).trans rfl
              have kgs1 : w2.cell? ⟨gs, 1, none⟩ = some (.slice (some ⟨gr, 0, none⟩) ss.length cr) := (blk_cell S2.out.hs 1).trans rfl
              have kgs2 : w2.cell? ⟨gs, 2, none⟩ = some (.slice (some ⟨gb, 0, none⟩) dd.length cd) := (blk_cell S2.out.hs 2).trans rfl
              have kgl0 : w2.cell? ⟨gl, 0, none⟩ = some (.int .i64 n) := (blk_cell S2.out.hl 0).trans rfl
              have kgl1 : w2.cell? ⟨gl, 1, none⟩ = some (.slice (some ad) l.length c) := (blk_cell S2.out.hl 1).trans rfl
              have kc1 : w2.cell? ⟨gc, 1, none⟩ = some (.int .i64 (rd_T88 l of).f1) := (blk_cell KY.out 1).trans rfl
              go_wp2_with (go_at_call 130; refine (cnt_any _ _ true gs gr ss.length cr _ _ _ _ _ LR1.out S2.out.hs S2.out.H1).mono ?_; rintro e w3 ⟨rfl, hR, hg⟩; have S3 := Aside0.mk (S2.out.sec hR hg); clear hR hg)
              go_meet
              case rel => exact ⟨⟨S3.out⟩, ⟨by unfold doCode; rw [if_pos (by decide), HDO.out]; rfl⟩⟩
            · go_upto_region 12 with (first | ((with_reducible refine gate_dst (N := 9) rfl ?_); refine box_event ?hg (N := 9) ?hd (cs := #[.int .i64 0, .int .i64 0]) (t := 88) ?hr ?_; (case hd => rfl); (case hg => rfl); (case hr => first | (go_simp; done) | (go_simp; rfl)); intro gc ec wb kc bc; have KC := Aside0.mk kc; have EC := Aside0.mk ec; have BC := Aside0.mk bc; have zc0 := blk_frozen kc 0; have zc1 := blk_frozen kc 1; have kc0 := (blk_cell kc 0).trans (show _ = some (Value.int .i64 0) from rfl); have kc1 := (blk_cell kc 1).trans (show _ = some (Value.int .i64 0) from rfl); have e0 := pw_cell_below bc ce0; have e1 := pw_cell_below bc ce1; have e2 := pw_cell_below bc ce2; have ss1 := pw_cell_below bc cs1; have ss2 := pw_cell_below bc cs2; clear kc ec bc))
              have KX := Aside0.mk (blk_put (blk_put KC.out 0 (.int .i64 (rd_T88 l of).f0) rfl) 1 (.int .i64 (rd_T88 l of).f1) rfl)
              have BX := Aside0.mk (below_set (j := 1) (v := (.int .i64 (rd_T88 l of).f1)) (below_set (j := 0) (v := (.int .i64 (rd_T88 l of).f0)) BC.out (Nat.le_of_eq EC.out.symm)) (Nat.le_of_eq EC.out.symm))
              have S1 := Aside0.mk (SA.out.up BX.out)
              clear SA ce0 ce1 ce2 cs0 cs1 cs2 cl0 cl1 x0 xf KC BC BX zc0 zc1 kc0 kc1 e0 e1 e2 ss1 ss2 y0 y1 EC
              generalize ((wb.setCell ⟨gc, 0, none⟩ (.int .i64 (rd_T88 l of).f0)).setCell ⟨gc, 1, none⟩ (.int .i64 (rd_T88 l of).f1)) = w1 at S1 KX ⊢
              have kge0 : w1.cell? ⟨ge, 0, none⟩ = some (.int .i64 2) := (blk_cell S1.out.he 0).trans rfl
              have kge1 : w1.cell? ⟨ge, 1, none⟩ = some (.int .i64 of) := (blk_cell S1.out.he 1).trans rfl
              have kge2 : w1.cell? ⟨ge, 2, none⟩ = some (.int .i64 1) := (blk_cell S1.out.he 2).trans rfl
              have kgs0 : w1.cell? ⟨gs, 0, none⟩ = some (.bool true) := (blk_cell S1.out.hs 0).trans rfl
              have kgs1 : w1.cell? ⟨gs, 1, none⟩ = some (.slice (some ⟨gr, 0, none⟩) ss.length cr) := (blk_cell S1.out.hs 1).trans rfl
              have kgs2 : w1.cell? ⟨gs, 2, none⟩ = some (.slice (some ⟨gb, 0, none⟩) dd.length cd) := (blk_cell S1.out.hs 2).trans rfl
              have kgl0 : w1.cell? ⟨gl, 0, none⟩ = some (.int .i64 n) := (blk_cell S1.out.hl 0).trans rfl
              have kgl1 : w1.cell? ⟨gl, 1, none⟩ = some (.slice (some ad) l.length c) := (blk_cell S1.out.hl 1).trans rfl
              have kc0 : w1.cell? ⟨gc, 0, none⟩ = some (.int .i64 (rd_T88 l of).f0) := (blk_cell KX.out 0).trans rfl
              have kc1 : w1.cell? ⟨gc, 1, none⟩ = some (.int .i64 (rd_T88 l of).f1) := (blk_cell KX.out 1).trans rfl
              go_wp2_with (go_at_call 130; refine (cnt_any _ _ true gs gr ss.length cr _ _ _ _ _ LR1.out S1.out.hs S1.out.H1).mono ?_; rintro e w3 ⟨rfl, hR, hg⟩; have S3 := Aside0.mk (S1.out.sec hR hg); clear hR hg)
              go_meet
              case rel => exact ⟨⟨S3.out⟩, ⟨by unfold doCode; rw [if_pos (by decide), HDO.out]; rfl⟩⟩
          · rcases hop with rfl | rfl
            · go_upto_region 12 with (first | ((with_reducible refine gate_dst (N := 9) rfl ?_); refine box_event ?hg (N := 9) ?hd (cs := #[.int .i64 0, .int .i64 0]) (t := 88) ?hr ?_; (case hd => rfl); (case hg => rfl); (case hr => first | (go_simp; done) | (go_simp; rfl)); intro gc ec wb kc bc; have KC := Aside0.mk kc; have EC := Aside0.mk ec; have BC := Aside0.mk bc; have zc0 := blk_frozen kc 0; have zc1 := blk_frozen kc 1; have kc0 := (blk_cell kc 0).trans (show _ = some (Value.int .i64 0) from rfl); have kc1 := (blk_cell kc 1).trans (show _ = some (Value.int .i64 0) from rfl); have e0 := pw_cell_below bc ce0; have e1 := pw_cell_below bc ce1; have e2 := pw_cell_below bc ce2; have ss1 := pw_cell_below bc cs1; have ss2 := pw_cell_below bc cs2; clear kc ec bc))
              have KX := Aside0.mk (blk_put (blk_put (blk_put (blk_put KC.out 0 (.int .i64 (rd_T88 l of).f0) rfl) 1 (.int .i64 (rd_T88 l of).f1) rfl) 0 (.int .i64 (rd_T88 l of).f1) rfl) 1 (.int .i64 (rd_T88 l of).f0) rfl)
              have BX := Aside0.mk (below_set (j := 1) (v := (.int .i64 (rd_T88 l of).f0)) (below_set (j := 0) (v := (.int .i64 (rd_T88 l of).f1)) (below_set (j := 1) (v := (.int .i64 (rd_T88 l of).f1)) (below_set (j := 0) (v := (.int .i64 (rd_T88 l of).f0)) BC.out (Nat.le_of_eq EC.out.symm)) (Nat.le_of_eq EC.out.symm)) (Nat.le_of_eq EC.out.symm)) (Nat.le_of_eq EC.out.symm))
              have S1 := Aside0.mk (SA.out.up BX.out)
              clear SA ce0 ce1 ce2 cs0 cs1 cs2 cl0 cl1 x0 xf KC BC BX zc0 zc1 kc0 kc1 e0 e1 e2 ss1 ss2 y0 y1 EC
              generalize ((((wb.setCell ⟨gc, 0, none⟩ (.int .i64 (rd_T88 l of).f0)).setCell ⟨gc, 1, none⟩ (.int .i64 (rd_T88 l of).f1)).setCell ⟨gc, 0, none⟩ (.int .i64 (rd_T88 l of).f1)).setCell ⟨gc, 1, none⟩ (.int .i64 (rd_T88 l of).f0)) = w1 at S1 KX ⊢
              have kge0 : w1.cell? ⟨ge, 0, none⟩ = some (.int .i64 1) := (blk_cell S1.out.he 0).trans rfl
              have kge1 : w1.cell? ⟨ge, 1, none⟩ = some (.int .i64 of) := (blk_cell S1.out.he 1).trans rfl
              have kge2 : w1.cell? ⟨ge, 2, none⟩ = some (.int .i64 (-1)) := (blk_cell S1.out.he 2).trans rfl
              have kgs0 : w1.cell? ⟨gs, 0, none⟩ = some (.bool true) := (blk_cell S1.out.hs 0).trans rfl
              have kgs1 : w1.cell? ⟨gs, 1, none⟩ = some (.slice (some ⟨gr, 0, none⟩) ss.length cr) := (blk_cell S1.out.hs 1).trans rfl
              have kgs2 : w1.cell? ⟨gs, 2, none⟩ = some (.slice (some ⟨gb, 0, none⟩) dd.length cd) := (blk_cell S1.out.hs 2).trans rfl
              have kgl0 : w1.cell? ⟨gl, 0, none⟩ = some (.int .i64 n) := (blk_cell S1.out.hl 0).trans rfl
              have kgl1 : w1.cell? ⟨gl, 1, none⟩ = some (.slice (some ad) l.length c) := (blk_cell S1.out.hl 1).trans rfl
              have kc0 : w1.cell? ⟨gc, 0, none⟩ = some (.int .i64 (rd_T88 l of).f1) := (blk_cell KX.out 0).trans rfl
              have kc1 : w1.cell? ⟨gc, 1, none⟩ = some (.int .i64 (rd_T88 l of).f0) := (blk_cell KX.out 1).trans rfl
              go_upto_region 14 with (go_at_call 130; refine (cnt_any _ _ true gs gr ss.length cr _ _ _ _ _ LR1.out S1.out.hs S1.out.H1).mono ?_; rintro e w2 ⟨rfl, hR, hg⟩; have S2 := Aside0.mk (S1.out.sec hR hg); have KY := Aside0.mk (blk_grown KX.out hg (Kd.R_ne S1.out.H1 KX.out (by decide))); clear hR hg)
              clear kge0 kge1 kge2 kgs0 kgs1 kgs2 kgl0 kgl1
              clear kc0 kc1 S1 KX
              have kge0 : w2.cell? ⟨ge, 0, none⟩ = some (.int .i64 1) := (blk_cell S2.out.he 0).trans rfl
              have kge1 : w2.cell? ⟨ge, 1, none⟩ = some (.int .i64 of) := (blk_cell S2.out.he 1).trans rfl
              have kge2 : w2.cell? ⟨ge, 2, none⟩ = some (.int .i64 (-1)) := (blk_cell S2.out.he 2).trans rfl
              have kgs0 : w2.cell? ⟨gs, 0, none⟩ = some (.bool true) := (blk_cell S2.out.hs 0).trans rfl
              have kgs1 : w2.cell? ⟨gs, 1, none⟩ = some (.slice (some ⟨gr, 0, none⟩) ss.length cr) := (blk_cell S2.out.hs 1).trans rfl
              have kgs2 : w2.cell? ⟨gs, 2, none⟩ = some (.slice (some ⟨gb, 0, none⟩) dd.length cd) := (blk_cell S2.out.hs 2).trans rfl
              have kgl0 : w2.cell? ⟨gl, 0, none⟩ = some (.int .i64 n) := (blk_cell S2.out.hl 0).trans rfl
              have kgl1 : w2.cell? ⟨gl, 1, none⟩ = some (.slice (some ad) l.length c) := (blk_cell S2.out.hl 1).trans rfl
              have kc1 : w2.cell? ⟨gc, 1, none⟩ = some (.int .i64 (rd_T88 l of).f0) := (blk_cell KY.out 1).trans rfl
              go_wp2_with (go_at_call 130; refine (cnt_any _ _ true gs gr ss.length cr _ _ _ _ _ LR0.out S2.out.hs S2.out.H1).mono ?_; rintro e w3 ⟨rfl, hR, hg⟩; have S3 := Aside0.mk (S2.out.sec hR hg); clear hR hg)
              go_meet
              case rel => exact ⟨⟨S3.out⟩, ⟨by unfold doCode; rw [if_pos (by decide), HDO.out]; rfl⟩⟩
            · go_upto_region 12 with (first | ((with_reducible refine gate_dst (N := 9) rfl ?_); refine box_event ?hg (N := 9) ?hd (cs := #[.int .i64 0, .int .i64 0]) (t := 88) ?hr ?_; (case hd => rfl); (case hg => rfl); (case hr => first | (go_simp; done) | (go_simp; rfl)); intro gc ec wb kc bc; have KC := Aside0.mk kc; have EC := Aside0.mk ec; have BC := Aside0.mk bc; have zc0 := blk_frozen kc 0; have zc1 := blk_frozen kc 1; have kc0 := (blk_cell kc 0).trans (show _ = some (Value.int .i64 0) from rfl); have kc1 := (blk_cell kc 1).trans (show _ = some (Value.int .i64 0) from rfl); have e0 := pw_cell_below bc ce0; have e1 := pw_cell_below bc ce1; have e2 := pw_cell_below bc ce2; have ss1 := pw_cell_below bc cs1; have ss2 := pw_cell_below bc cs2; clear kc ec bc))
              have KX := Aside0.mk (blk_put (blk_put (blk_put (blk_put KC.out 0 (.int .i64 (rd_T88 l of).f0) rfl) 1 (.int .i64 (rd_T88 l of).f1) rfl) 0 (.int .i64 (rd_T88 l of).f1) rfl) 1 (.int .i64 (rd_T88 l of).f0) rfl)
              have BX := Aside0.mk (below_set (j := 1) (v := (.int .i64 (rd_T88 l of).f0)) (below_set (j := 0) (v := (.int .i64 (rd_T88 l of).f1)) (below_set (j := 1) (v := (.int .i64 (rd_T88 l of).f1)) (below_set (j := 0) (v := (.int .i64 (rd_T88 l of).f0)) BC.out (Nat.le_of_eq EC.out.symm)) (Nat.le_of_eq EC.out.symm)) (Nat.le_of_eq EC.out.symm)) (Nat.le_of_eq EC.out.symm))
              have S1 := Aside0.mk (SA.out.up BX.out)
              clear SA ce0 ce1 ce2 cs0 cs1 cs2 cl0 cl1 x0 xf KC BC BX zc0 zc1 kc0 kc1 e0 e1 e2 ss1 ss2 y0 y1 EC
              generalize ((((wb.setCell ⟨gc, 0, none⟩ (.int .i64 (rd_T88 l of).f0)).setCell ⟨gc, 1, none⟩ (.int .i64 (rd_T88 l of).f1)).setCell ⟨gc, 0, none⟩ (.int .i64 (rd_T88 l of).f1)).setCell ⟨gc, 1, none⟩ (.int .i64 (rd_T88 l of).f0)) = w1 at S1 KX ⊢
              have kge0 : w1.cell? ⟨ge, 0, none⟩ = some (.int .i64 2) := (blk_cell S1.out.he 0).trans rfl
              have kge1 : w1.cell? ⟨ge, 1, none⟩ = some (.int .i64 of) := (blk_cell S1.out.he 1).trans rfl
              have kge2 : w1.cell? ⟨ge, 2, none⟩ = some (.int .i64 (-1)) := (blk_cell S1.out.he 2).trans rfl
              have kgs0 : w1.cell? ⟨gs, 0, none⟩ = some (.bool true) := (blk_cell S1.out.hs 0).trans rfl
              have kgs1 : w1.cell? ⟨gs, 1, none⟩ = some (.slice (some ⟨gr, 0, none⟩) ss.length cr) := (blk_cell S1.out.hs 1).trans rfl
              have kgs2 : w1.cell? ⟨gs, 2, none⟩ = some (.slice (some ⟨gb, 0, none⟩) dd.length cd) := (blk_cell S1.out.hs 2).trans rfl
              have kgl0 : w1.cell? ⟨gl, 0, none⟩ = some (.int .i64 n) := (blk_cell S1.out.hl 0).trans rfl
              have kgl1 : w1.cell? ⟨gl, 1, none⟩ = some (.slice (some ad) l.length c) := (blk_cell S1.out.hl 1).trans rfl
              have kc0 : w1.cell? ⟨gc, 0, none⟩ = some (.int .i64 (rd_T88 l of).f1) := (blk_cell KX.out 0).trans rfl
              have kc1 : w1.cell? ⟨gc, 1, none⟩ = some (.int .i64 (rd_T88 l of).f0) := (blk_cell KX.out 1).trans rfl
              go_wp2_with (go_at_call 130; refine (cnt_any _ _ true gs gr ss.length cr _ _ _ _ _ LR0.out S1.out.hs S1.out.H1).mono ?_; rintro e w3 ⟨rfl, hR, hg⟩; have S3 := Aside0.mk (S1.out.sec hR hg); clear hR hg)
              go_meet
              case rel => exact ⟨⟨S3.out⟩, ⟨by unfold doCode; rw [if_pos (by decide), HDO.out]; rfl⟩⟩
      · have lr := lay_rd hl of ho0 ho1
        have ho2 := ho1
        rw [← hnd] at ho1
        obtain ⟨gb, cb, e, _, _, _⟩ := Kd.R_form SA.out.H2 (show 0 < dd.length by omega)
        cases e
        obtain ⟨x0, xf⟩ := bool_at SA.out.H2 of ho0 ho1
        obtain ⟨ad, e, y0, y1⟩ := at_T88 HR.out of ho0 (by omega)
        subst e
        have lr0 : (rd_T88 l of).f0 < (ss.length : Int) := by omega
        have lr1 : (rd_T88 l of).f1 < (ss.length : Int) := by omega
        have LR0 := Aside0.mk lr0
        have LR1 := Aside0.mk lr1
        clear lr lr0 lr1 hl hns hnd hev hln
        have Y0 := Aside0.mk y0
        have Y1 := Aside0.mk y1
        clear y0 y1
        rcases hop with rfl | rfl
        · go_upto_region 17 with fail
          have S1 := Aside0.mk (SA.out.dead of true)
          clear SA ce0 ce1 ce2 cs0 cs1 cs2 cl0 cl1 x0 xf
          generalize wc.setCell ⟨gb, of.toNat, none⟩ (.bool true) = w1 at S1 ⊢
          have kge0 : w1.cell? ⟨ge, 0, none⟩ = some (.int .i64 3) := (blk_cell S1.out.he 0).trans rfl
          have kge1 : w1.cell? ⟨ge, 1, none⟩ = some (.int .i64 of) := (blk_cell S1.out.he 1).trans rfl
          have kge2 : w1.cell? ⟨ge, 2, none⟩ = some (.int .i64 dir) := (blk_cell S1.out.he 2).trans rfl
          have kgs0 : w1.cell? ⟨gs, 0, none⟩ = some (.bool true) := (blk_cell S1.out.hs 0).trans rfl
          have kgs1 : w1.cell? ⟨gs, 1, none⟩ = some (.slice (some ⟨gr, 0, none⟩) ss.length cr) := (blk_cell S1.out.hs 1).trans rfl
          have kgs2 : w1.cell? ⟨gs, 2, none⟩ = some (.slice (some ⟨gb, 0, none⟩) dd.length cd) := (blk_cell S1.out.hs 2).trans rfl
          have kgl0 : w1.cell? ⟨gl, 0, none⟩ = some (.int .i64 n) := (blk_cell S1.out.hl 0).trans rfl
          have kgl1 : w1.cell? ⟨gl, 1, none⟩ = some (.slice (some ad) l.length c) := (blk_cell S1.out.hl 1).trans rfl
          have y0 := pw_cell_below S1.out.hB Y0.out
          have y1 := pw_cell_below S1.out.hB Y1.out
          go_upto_region 18 with (go_at_call 131; refine (lose_any _ true gs gr ss.length cr _ _ _ _ _ LR0.out S1.out.hs S1.out.H1).mono ?_; rintro e w2 ⟨rfl, hR, hg⟩; have S2 := Aside0.mk (S1.out.sec hR hg); clear hR hg)
          clear kge0 kge1 kge2 kgs0 kgs1 kgs2 kgl0 kgl1
          clear y0 y1 S1
          have kge0 : w2.cell? ⟨ge, 0, none⟩ = some (.int .i64 3) := (blk_cell S2.out.he 0).trans rfl
          have kge1 : w2.cell? ⟨ge, 1, none⟩ = some (.int .i64 of) := (blk_cell S2.out.he 1).trans rfl
          have kge2 : w2.cell? ⟨ge, 2, none⟩ = some (.int .i64 dir) := (blk_cell S2.out.he 2).trans rfl
          have kgs0 : w2.cell? ⟨gs, 0, none⟩ = some (.bool true) := (blk_cell S2.out.hs 0).trans rfl
          have kgs1 : w2.cell? ⟨gs, 1, none⟩ = some (.slice (some ⟨gr, 0, none⟩) ss.length cr) := (blk_cell S2.out.hs 1).trans rfl
          have kgs2 : w2.cell? ⟨gs, 2, none⟩ = some (.slice (some ⟨gb, 0, none⟩) dd.length cd) := (blk_cell S2.out.hs 2).trans rfl
          have kgl0 : w2.cell? ⟨gl, 0, none⟩ = some (.int .i64 n) := (blk_cell S2.out.hl 0).trans rfl
          have kgl1 : w2.cell? ⟨gl, 1, none⟩ = some (.slice (some ad) l.length c) := (blk_cell S2.out.hl 1).trans rfl
          have y0 := pw_cell_below S2.out.hB Y0.out
          have y1 := pw_cell_below S2.out.hB Y1.out
          go_wp2_with (go_at_call 131; refine (lose_any _ true gs gr ss.length cr _ _ _ _ _ LR1.out S2.out.hs S2.out.H1).mono ?_; rintro e w3 ⟨rfl, hR, hg⟩; have S3 := Aside0.mk (S2.out.sec hR hg); clear hR hg)
          go_meet
          case rel => exact ⟨⟨S3.out⟩, ⟨rfl⟩⟩
        · go_wp2_with fail
          go_meet
          case rel => exact ⟨⟨SA.out.dead of false⟩, ⟨rfl⟩⟩
      · rw [← hns] at ho1
        obtain ⟨z0, z1, z2, z3, z4, zf0, zf1, zf2, zf3, zf4⟩ := sec_at SA.out.H1 of ho0 ho1
        have hll : l.length ≤ 1048576 := by omega
        have HLL := Aside0.mk hll
        have HND := Aside0.mk hnd
        have HO0 := Aside0.mk ho0
        have HO1 := Aside0.mk ho1
        clear hl hns hnd hev hln hll z0 z1 z2 z3 z4 zf0 zf1 zf2 zf3 zf4
        rcases Bool.eq_false_or_eq_true (deadAt l dd of) with hdo | hdo
        · have HDO := Aside0.mk hdo
          clear hdo
          have HC2 := Aside0.mk (show doCode l ss dd 5 of = 3 by unfold doCode; rw [if_neg (by decide), if_pos rfl, if_pos HDO.out])
          go_upto_region 23 with (go_at_call 98; refine (dead_at of HDO.out (Kd.C_below HR.out SA.out.hB) hc (Kd.R_reads' SA.out.H1).2.2 (Kd.R_reads' SA.out.H1).2.1 (Kd.R_reads' SA.out.H2).2.2 (Kd.R_reads' SA.out.H2).2.1 HLL.out HND.out).mono ?_; rintro e w1 ⟨rfl, hb⟩; have S1 := Aside0.mk (SA.out.up hb); clear hb)
          clear ce0 ce1 ce2 cs0 cs1 cs2 cl0 cl1 SA
          have kge0 : w1.cell? ⟨ge, 0, none⟩ = some (.int .i64 5) := (blk_cell S1.out.he 0).trans rfl
          have kge1 : w1.cell? ⟨ge, 1, none⟩ = some (.int .i64 of) := (blk_cell S1.out.he 1).trans rfl
          have kge2 : w1.cell? ⟨ge, 2, none⟩ = some (.int .i64 dir) := (blk_cell S1.out.he 2).trans rfl
          have kgs0 : w1.cell? ⟨gs, 0, none⟩ = some (.bool true) := (blk_cell S1.out.hs 0).trans rfl
          have kgs1 : w1.cell? ⟨gs, 1, none⟩ = some (.slice (some ⟨gr, 0, none⟩) ss.length cr) := (blk_cell S1.out.hs 1).trans rfl
          have kgs2 : w1.cell? ⟨gs, 2, none⟩ = some (.slice Ad dd.length cd) := (blk_cell S1.out.hs 2).trans rfl
          have kgl0 : w1.cell? ⟨gl, 0, none⟩ = some (.int .i64 n) := (blk_cell S1.out.hl 0).trans rfl
          have kgl1 : w1.cell? ⟨gl, 1, none⟩ = some (.slice A l.length c) := (blk_cell S1.out.hl 1).trans rfl
          have kd0 : w1.cell? ⟨gd, 0, none⟩ = some (.int .i64 0) := (blk_cell S1.out.hd 0).trans rfl
          have kz0 := blk_frozen S1.out.hd 0
          have kd1 : w1.cell? ⟨gd, 1, none⟩ = some (.bool false) := (blk_cell S1.out.hd 1).trans rfl
          have kz1 := blk_frozen S1.out.hd 1
          have kd2 : w1.cell? ⟨gd, 2, none⟩ = some (.slice none 0 0) := (blk_cell S1.out.hd 2).trans rfl
          have kz2 := blk_frozen S1.out.hd 2
          have kd3 : w1.cell? ⟨gd, 3, none⟩ = some (.slice none 0 0) := (blk_cell S1.out.hd 3).trans rfl
          have kz3 := blk_frozen S1.out.hd 3
          go_wp2_with fail
          have SF := S1.out.fill (y0 := .int .i64 3) (y1 := .bool true) (y2 := (.slice (some ⟨gr, 0, none⟩) ss.length cr)) (y3 := (.slice Ad dd.length cd))
          refine bodyPost_ret (results_cell_row rfl _ _ gd 48 _ (0, 0) _ rfl SF.hd Try.underlying48 rfl (by kernel_rfl)) rfl ⟨_, _, by rw [HC2.out], ?_, ?_, SF.hB⟩
          · unfold doSecs; rw [HC2.out]; exact SF.H1
          · unfold doDead; rw [HC2.out]; exact SF.H2
        · have HDO := Aside0.mk hdo
          clear hdo
          go_upto_region 24 with (go_at_call 98; refine (dead_at of HDO.out (Kd.C_below HR.out SA.out.hB) hc (Kd.R_reads' SA.out.H1).2.2 (Kd.R_reads' SA.out.H1).2.1 (Kd.R_reads' SA.out.H2).2.2 (Kd.R_reads' SA.out.H2).2.1 HLL.out HND.out).mono ?_; rintro e w1 ⟨rfl, hb⟩; have S1 := Aside0.mk (SA.out.up hb); clear hb)
          clear ce0 ce1 ce2 cs0 cs1 cs2 cl0 cl1 SA
          have kge0 : w1.cell? ⟨ge, 0, none⟩ = some (.int .i64 5) := (blk_cell S1.out.he 0).trans rfl
          have kge1 : w1.cell? ⟨ge, 1, none⟩ = some (.int .i64 of) := (blk_cell S1.out.he 1).trans rfl
          have kge2 : w1.cell? ⟨ge, 2, none⟩ = some (.int .i64 dir) := (blk_cell S1.out.he 2).trans rfl
          have kgs0 : w1.cell? ⟨gs, 0, none⟩ = some (.bool true) := (blk_cell S1.out.hs 0).trans rfl
          have kgs1 : w1.cell? ⟨gs, 1, none⟩ = some (.slice (some ⟨gr, 0, none⟩) ss.length cr) := (blk_cell S1.out.hs 1).trans rfl
          have kgs2 : w1.cell? ⟨gs, 2, none⟩ = some (.slice Ad dd.length cd) := (blk_cell S1.out.hs 2).trans rfl
          have kgl0 : w1.cell? ⟨gl, 0, none⟩ = some (.int .i64 n) := (blk_cell S1.out.hl 0).trans rfl
          have kgl1 : w1.cell? ⟨gl, 1, none⟩ = some (.slice A l.length c) := (blk_cell S1.out.hl 1).trans rfl
          have ho0 := HO0.out
          have ho1 := HO1.out
          obtain ⟨z0, z1, z2, z3, z4, zf0, zf1, zf2, zf3, zf4⟩ := sec_at S1.out.H1 of ho0 ho1
          by_cases hla : (rd_T50 ss of).f4 = 1
          · have hla1 : ((rd_T50 ss of).f4 == 1) = true := beq_iff_eq.mpr hla
            have HC2 := Aside0.mk (show doCode l ss dd 5 of = 4 by unfold doCode; rw [if_neg (by decide), if_pos rfl, HDO.out, if_neg (by decide), if_pos hla])
            clear hla
            have kd0 : w1.cell? ⟨gd, 0, none⟩ = some (.int .i64 0) := (blk_cell S1.out.hd 0).trans rfl
            have kz0 := blk_frozen S1.out.hd 0
            have kd1 : w1.cell? ⟨gd, 1, none⟩ = some (.bool false) := (blk_cell S1.out.hd 1).trans rfl
            have kz1 := blk_frozen S1.out.hd 1
            have kd2 : w1.cell? ⟨gd, 2, none⟩ = some (.slice none 0 0) := (blk_cell S1.out.hd 2).trans rfl
            have kz2 := blk_frozen S1.out.hd 2
            have kd3 : w1.cell? ⟨gd, 3, none⟩ = some (.slice none 0 0) := (blk_cell S1.out.hd 3).trans rfl
            have kz3 := blk_frozen S1.out.hd 3
            go_wp2_with fail
            have SF := S1.out.fill (y0 := .int .i64 4) (y1 := .bool true) (y2 := (.slice (some ⟨gr, 0, none⟩) ss.length cr)) (y3 := (.slice Ad dd.length cd))
            refine bodyPost_ret (results_cell_row rfl _ _ gd 48 _ (0, 0) _ rfl SF.hd Try.underlying48 rfl (by kernel_rfl)) rfl ⟨_, _, by rw [HC2.out], ?_, ?_, SF.hB⟩
            · unfold doSecs; rw [HC2.out]; exact SF.H1
            · unfold doDead; rw [HC2.out]; exact SF.H2
          · have hla1 : ((rd_T50 ss of).f4 == 1) = false := beq_eq_false_iff_ne.mpr hla
            have HC2 := Aside0.mk (show doCode l ss dd 5 of = 0 by unfold doCode; rw [if_neg (by decide), if_pos rfl, HDO.out, if_neg (by decide), if_neg hla])
            clear hla
            go_wp2_with fail
            go_meet
            case rel =>
              obtain ⟨hR, hg⟩ := ((((SecSt.start S1.out.H1 HO0.out HO1.out).put0 HO0.out HO1.out (u := 0) rfl).put1 HO0.out HO1.out (u := 0) rfl).put2 HO0.out HO1.out (u := false) rfl |>.put3 HO0.out HO1.out (u := true) rfl).put4 HO0.out HO1.out (u := 0) rfl
              exact ⟨⟨S1.out.sec hR hg⟩, HC2⟩
    case rest =>
      obtain ⟨SM, HC0⟩ := hcut
      have HLM := Aside0.mk (midSecs_length l ss op of dir)
      have HLD := Aside0.mk (midDead_length dd op of)
      have HDS := Aside0.mk (show retold l (midDead dd op of) (midSecs l ss op of dir) = doSecs l ss dd op of dir by unfold doSecs; rw [if_pos HC0.out])
      have HDD := Aside0.mk (show midDead dd op of = doDead l ss dd op of by unfold doDead; rw [if_pos HC0.out])
      clear SA ce0 ce1 ce2 cs0 cs1 cs2 cl0 cl1
      generalize midSecs l ss op of dir = ms at SM HLM HDS
      generalize midDead dd op of = md at SM HLD HDS HDD
      have kge0 : wc.cell? ⟨ge, 0, none⟩ = some (.int .i64 op) := (blk_cell SM.out.he 0).trans rfl
      have kge1 : wc.cell? ⟨ge, 1, none⟩ = some (.int .i64 of) := (blk_cell SM.out.he 1).trans rfl
      have kge2 : wc.cell? ⟨ge, 2, none⟩ = some (.int .i64 dir) := (blk_cell SM.out.he 2).trans rfl
      have kgs0 : wc.cell? ⟨gs, 0, none⟩ = some (.bool true) := (blk_cell SM.out.hs 0).trans rfl
      have kgs1 : wc.cell? ⟨gs, 1, none⟩ = some (.slice (some ⟨gr, 0, none⟩) ss.length cr) := (blk_cell SM.out.hs 1).trans rfl
      have kgs2 : wc.cell? ⟨gs, 2, none⟩ = some (.slice Ad dd.length cd) := (blk_cell SM.out.hs 2).trans rfl
      have kgl0 : wc.cell? ⟨gl, 0, none⟩ = some (.int .i64 n) := (blk_cell SM.out.hl 0).trans rfl
      have kgl1 : wc.cell? ⟨gl, 1, none⟩ = some (.slice A l.length c) := (blk_cell SM.out.hl 1).trans rfl
      go_wp2_with fail
      go_loopg [119] ss.length (fun kq v w' => ∃ j : Nat, v = .int .i64 j ∧ Aside0 (j + kq = ss.length) ∧ Aside0 (DoSt w w' gl gs ge gd [.int .i64 n, .slice A l.length c] [.bool true, .slice (some ⟨gr, 0, none⟩) ss.length cr, .slice Ad dd.length cd] [.int .i64 op, .int .i64 of, .int .i64 dir] [.int .i64 0, .bool false, .slice none 0 0, .slice none 0 0] (.slice (some ⟨gr, 0, none⟩) ss.length cr) (.slice Ad dd.length cd) (retoldTo l md ms j) md))
      case atStart => exact ⟨0, rfl, ⟨by omega⟩, ⟨by rw [retoldTo_zero]; exact SM.out⟩⟩
      case round =>
        obtain ⟨j, rfl, HJ, SL⟩ := hrel
        clear kge0 kge1 kge2 kgs0 kgs1 kgs2 kgl0 kgl1
        clear SM
        by_cases hlt : j < ss.length
        · cases gk with
          | zero => exact absurd HJ.out (by omega)
          | succ gk =>
            have hlt' : decide ((j : Int) < (ss.length : Int)) = true := decide_eq_true (by omega)
            have q0 : (0 : Int) ≤ (j : Int) := by omega
            have q1 : (j : Int) < (ss.length : Int) := by omega
            have q2 : ss.length ≤ 60 := by have := lay_n HN.out.1; have := HN.out.2.1; omega
            go_upto_block 2 with fail
            go_cut [11] from 121 to 130 (fun v11 wx => Aside0 (DoSt w wx gl gs ge gd [.int .i64 n, .slice A l.length c] [.bool true, .slice (some ⟨gr, 0, none⟩) ss.length cr, .slice Ad dd.length cd] [.int .i64 op, .int .i64 of, .int .i64 dir] [.int .i64 0, .bool false, .slice none 0 0, .slice none 0 0] (.slice (some ⟨gr, 0, none⟩) ss.length cr) (.slice Ad dd.length cd) (retoldTo l md ms (j + 1)) md))
            case first =>
              have HLL := Aside0.mk (show l.length ≤ 1048576 by have := lay_n HN.out.1; omega)
              have HML := Aside0.mk (show md.length = l.length by rw [HLD.out]; exact HN.out.2.2.1)
              have n1 : gr ≠ gs := fun e => Kd.R_ne SL.out.H1 SL.out.hs (by decide) (by rw [e]; rfl)
              have n2 : gr ≠ gl := fun e => Kd.R_ne SL.out.H1 SL.out.hl (by decide) (by rw [e]; rfl)
              have kgs0 : wr.cell? ⟨gs, 0, none⟩ = some (.bool true) := (blk_cell SL.out.hs 0).trans rfl
              have kgs1 : wr.cell? ⟨gs, 1, none⟩ = some (.slice (some ⟨gr, 0, none⟩) ss.length cr) := (blk_cell SL.out.hs 1).trans rfl
              have kgs2 : wr.cell? ⟨gs, 2, none⟩ = some (.slice Ad dd.length cd) := (blk_cell SL.out.hs 2).trans rfl
              have kgl0 : wr.cell? ⟨gl, 0, none⟩ = some (.int .i64 n) := (blk_cell SL.out.hl 0).trans rfl
              have kgl1 : wr.cell? ⟨gl, 1, none⟩ = some (.slice A l.length c) := (blk_cell SL.out.hl 1).trans rfl
              have SD := Aside0.mk (SL.out.up (below_drew1 (Below.refl _ _)))
              have hln : ss.length = (retoldTo l md ms j).length := by rw [retoldTo_length, HLM.out]
              have HLN := Aside0.mk hln
              have HLM2 := Aside0.mk (show dd.length = md.length from HLD.out.symm)
              clear hln
              go_upto_region 31 with fail
              go_region_held3 (fun w' => w'.cell? ⟨gl, 0, none⟩ = some (.int .i64 n) ∧ w'.cell? ⟨gl, 1, none⟩ = some (.slice A l.length c) ∧ w'.cell? ⟨gs, 0, none⟩ = some (.bool true) ∧ w'.cell? ⟨gs, 1, none⟩ = some (.slice (some ⟨gr, 0, none⟩) ss.length cr) ∧ w'.cell? ⟨gs, 2, none⟩ = some (.slice Ad dd.length cd))
                (first | go_keep | (go_split_ands; (repeat' apply And.intro) <;> (refine pw_cell_below hb ?_; assumption)) | (go_split_ands; (repeat' apply And.intro) <;> (rw [World.cell?_setCell_far _ _ _ _ (by assumption)]; assumption)))
                (first | (go_at_call 97; refine (told_of (j : Int) (Kd.C_below HR.out SD.out.hB) hc SD.out.H1 SD.out.H2 HLN.out HLM2.out HLL.out HML.out q0 q1).mono ?_; rintro e w' ⟨rfl, hb⟩; have S2 := Aside0.mk (SD.out.up hb); obtain ⟨z0, z1, z2, z3, z4, zf0, zf1, zf2, zf3, zf4⟩ := sec_at S2.out.H1 (j : Int) q0 q1; rw [Int.toNat_natCast] at z0 zf0; clear z1 z2 z3 z4 zf1 zf2 zf3 zf4))
              all_goals (go_wp2_with fail; go_meet)
              obtain ⟨hR, hg⟩ := (SecSt.start S2.out.H1 q0 q1).put0 q0 q1 (u := toldC l md (j : Int) (rd_T50 (retoldTo l md ms j) (j : Int))) (show j * 5 = (j : Int).toNat * 5 + 0 by rw [Int.toNat_natCast, Nat.add_zero])
              rw [retold_step l md ms j (by rw [HLM.out]; exact hlt)] at hR
              exact ⟨S2.out.sec hR hg⟩
            case rest =>
              go_wp2_with fail
              go_roundg gk
              case measure => omega
              case rel => exact ⟨j + 1, by go_num, ⟨by have := HJ.out; omega⟩, hcut⟩
        · have hlt' : decide ((j : Int) < (ss.length : Int)) = false := decide_eq_false (by omega)
          have hj : j = ss.length := by have := HJ.out; omega
          have hre : retoldTo l md ms j = retold l md ms := by rw [retold, HLM.out, hj]
          have SF0 := Aside0.mk (show DoSt w wr gl gs ge gd [.int .i64 n, .slice A l.length c] [.bool true, .slice (some ⟨gr, 0, none⟩) ss.length cr, .slice Ad dd.length cd] [.int .i64 op, .int .i64 of, .int .i64 dir] [.int .i64 0, .bool false, .slice none 0 0, .slice none 0 0] (.slice (some ⟨gr, 0, none⟩) ss.length cr) (.slice Ad dd.length cd) (doSecs l ss dd op of dir) (doDead l ss dd op of) by rw [← HDS.out, ← HDD.out, ← hre]; exact SL.out)
          clear hj hre SL
          have kgs0 : wr.cell? ⟨gs, 0, none⟩ = some (.bool true) := (blk_cell SF0.out.hs 0).trans rfl
          have kgs1 : wr.cell? ⟨gs, 1, none⟩ = some (.slice (some ⟨gr, 0, none⟩) ss.length cr) := (blk_cell SF0.out.hs 1).trans rfl
          have kgs2 : wr.cell? ⟨gs, 2, none⟩ = some (.slice Ad dd.length cd) := (blk_cell SF0.out.hs 2).trans rfl
          have kd0 : wr.cell? ⟨gd, 0, none⟩ = some (.int .i64 0) := (blk_cell SF0.out.hd 0).trans rfl
          have kz0 := blk_frozen SF0.out.hd 0
          have kd1 : wr.cell? ⟨gd, 1, none⟩ = some (.bool false) := (blk_cell SF0.out.hd 1).trans rfl
          have kz1 := blk_frozen SF0.out.hd 1
          have kd2 : wr.cell? ⟨gd, 2, none⟩ = some (.slice none 0 0) := (blk_cell SF0.out.hd 2).trans rfl
          have kz2 := blk_frozen SF0.out.hd 2
          have kd3 : wr.cell? ⟨gd, 3, none⟩ = some (.slice none 0 0) := (blk_cell SF0.out.hd 3).trans rfl
          have kz3 := blk_frozen SF0.out.hd 3
          go_wp2_with fail
          have SF := SF0.out.fill (y0 := .int .i64 0) (y1 := .bool true) (y2 := (.slice (some ⟨gr, 0, none⟩) ss.length cr)) (y3 := (.slice Ad dd.length cd))
          exact bodyPost_ret (results_cell_row rfl _ _ gd 48 _ (0, 0) _ rfl SF.hd Try.underlying48 rfl (by kernel_rfl)) rfl ⟨_, _, by rw [HC0.out], SF.H1, SF.H2, SF.hB⟩
end Go.Proofs.Ytpdnabhpkdchjaa.P
namespace Go.Proofs.Ytpdnabhpkdchjaa.P
open Go.RowKit Go.Proofs.YtpdnabhpkdchjaaW.PrintWords Go.Proofs.YtpdnabhpkdchjaaW.PrintLast Go.Proofs.YtpdnabhpkdchjaaW.PrintMore
set_option linter.unusedVariables false
structure RnSt (w0 w : World) (gl gs : Nat) (lv sv : List Value) (u1 u2 : Value) (s : S46) (v : Value) (out : List S48) : Prop where
  hl : w.heap[gl]? = some (.cells lv.toArray 30 (0, 0))
  hs : w.heap[gs]? = some (.cells sv.toArray 46 (0, 0))
  V1 : Kd.V k50 50 w w0.heap.size (fun k => some k = u1.ownBlock) u1 s.f1
  V2 : Kd.V Kd.bool 4 w w0.heap.size (fun k => some k = u2.ownBlock) u2 s.f2
  HS : Kd.S k48 48 w w0.heap.size (fun _ => True) v out
  hB : Below w0.heap.size w0 w
  gle : w0.heap.size ≤ gl
  gse : w0.heap.size ≤ gs
structure MdSt (w0 wr w : World) (gl gs gd : Nat) (lv sv dv : List Value) (v2 v3 : Value) (ss : List S50) (dd : List Bool) (v : Value) (out : List S48) : Prop where
  hl : w.heap[gl]? = some (.cells lv.toArray 30 (0, 0))
  hs : w.heap[gs]? = some (.cells sv.toArray 46 (0, 0))
  hd : w.heap[gd]? = some (.cells dv.toArray 48 (0, 0))
  R1 : Kd.R k50 50 w wr.heap.size (fun _ => True) v2 ss
  R2 : Kd.R Kd.bool 4 w wr.heap.size (fun _ => True) v3 dd
  HS : Kd.S k48 48 w w0.heap.size (fun k => k < wr.heap.size) v out
  hB : Below w0.heap.size w0 w
  gle : w0.heap.size ≤ gl
  gse : w0.heap.size ≤ gs
  gde : wr.heap.size ≤ gd
  hw : w0.heap.size ≤ wr.heap.size
section
variable {w0 wr w w' w1 : World} {gl gs gd : Nat} {lv sv dv : List Value} {u1 u2 v v1 v2 v3 : Value} {s : S46} {ss : List S50} {dd : List Bool} {out : List S48}
theorem RnSt.up (h : RnSt w0 w gl gs lv sv u1 u2 s v out) (hb : Below w.heap.size w w') : RnSt w0 w' gl gs lv sv u1 u2 s v out where
  hl := blk_below h.hl hb
  hs := blk_below h.hs hb
  V1 := Kd.V_below h.V1 hb
  V2 := Kd.V_below h.V2 hb
  HS := Kd.S_below h.HS hb
  hB := below_step h.hB hb
  gle := h.gle
  gse := h.gse
theorem RnSt.mid (h : RnSt w0 wr gl gs lv sv u1 u2 s v out) (hb : Below wr.heap.size wr w) (hd : w.heap[gd]? = some (.cells dv.toArray 48 (0, 0))) (gde : wr.heap.size ≤ gd) (R1 : Kd.R k50 50 w wr.heap.size (fun _ => True) v2 ss) (R2 : Kd.R Kd.bool 4 w wr.heap.size (fun _ => True) v3 dd) :
    MdSt w0 wr w gl gs gd lv sv dv v2 v3 ss dd v out where
  hl := blk_below h.hl hb
  hs := blk_below h.hs hb
  hd := hd
  R1 := R1
  R2 := R2
  HS := Kd.S_below (Kd.S_mono (Kd.S_bound h.HS) (fun _ hk => hk.2.2.1)) hb
  hB := below_step h.hB hb
  gle := h.gle
  gse := h.gse
  gde := gde
  hw := h.hB.size
def okp (v2 v3 : Value) (k : Nat) : Prop := some k = v2.ownBlock ∨ some k = v3.ownBlock
theorem own_from {α : Type} {d : Kd α} {e : Nat} {base : Nat} {ok : Nat → Prop} {xs : List α} (h : d.R e w base ok v xs) (k : Nat) (hk : v.ownBlock = some k) : base ≤ k := by
  rcases Kd.R_base2 h with h2 | ⟨j, h2, h3⟩
  · rw [h2] at hk; cases hk
  · rw [h2] at hk; cases hk; exact h3
theorem MdSt.okp_new (h : MdSt w0 wr w gl gs gd lv sv dv v2 v3 ss dd v out) {k : Nat} (hk : okp v2 v3 k) : wr.heap.size ≤ k := by
  rcases hk with hk | hk
  · exact own_from h.R1 k hk.symm
  · exact own_from h.R2 k hk.symm
theorem MdSt.okp_ne (h : MdSt w0 wr w gl gs gd lv sv dv v2 v3 ss dd v out) {k : Nat} (hk : okp v2 v3 k) : some k ≠ v.ownBlock := by
  intro e
  have h1 := h.okp_new hk
  have h2 : k < wr.heap.size := (Kd.S_R h.HS).1 k e.symm
  omega
theorem MdSt.rest (h : MdSt w0 wr w gl gs gd lv sv dv v2 v3 ss dd v out) : Kd.S k48 48 w w0.heap.size (fun k => True ∧ ¬ okp v2 v3 k) v out :=
  Kd.S_mono h.HS (fun k hk => ⟨trivial, fun hp => by have := h.okp_new hp; omega⟩)
theorem MdSt.elem (h : MdSt w0 wr w gl gs gd lv sv dv v2 v3 ss dd v out) (code : Int) (b : Bool) : k48.M w w0.heap.size (okp v2 v3) ⟨code, ⟨b, ss, dd⟩⟩ [.int .i64 code, .bool b, v2, v3] :=
  k48_mkM w _ _ ⟨code, ⟨b, ss, dd⟩⟩ (Kd.R_mono (Kd.R_tight rfl (Kd.R_lower h.R1 h.hw)) (fun _ hk => .inl hk)) (Kd.R_mono (Kd.R_tight rfl (Kd.R_lower h.R2 h.hw)) (fun _ hk => .inr hk))
theorem MdSt.fin {x0 x1 x2 : Value} (h : MdSt w0 wr w gl gs gd lv [x0, x1, x2] dv v2 v3 ss dd v out) {code : Int} {b : Bool} (HS1 : Kd.S k48 48 w1 w0.heap.size (fun _ => True) v1 (out ++ [⟨code, ⟨b, ss, dd⟩⟩])) (hB1 : Below w0.heap.size w0 w1) (hg : w.grownBy w1 v.ownBlock) :
    RnSt w0 (((w1.setCell ⟨gs, 0, none⟩ (.bool b)).setCell ⟨gs, 1, none⟩ v2).setCell ⟨gs, 2, none⟩ v3) gl gs lv [.bool b, v2, v3] v2 v3 ⟨b, ss, dd⟩ v1 (out ++ [⟨code, ⟨b, ss, dd⟩⟩]) := by
  have ngs : ∀ k, some k = v2.ownBlock → k ≠ gs := fun k hk e => Kd.R_ne h.R1 h.hs (by decide) (e ▸ hk)
  have ngs3 : ∀ k, some k = v3.ownBlock → k ≠ gs := fun k hk e => Kd.R_ne h.R2 h.hs (by decide) (e ▸ hk)
  have hl1 := blk_grown h.hl hg (Kd.S_ne h.HS h.hl (by decide))
  have hs1 := blk_grown h.hs hg (Kd.S_ne h.HS h.hs (by decide))
  have ne := blk_ne hl1 hs1 (by decide)
  have W1 : Kd.V k50 50 w1 w0.heap.size (fun k => some k = v2.ownBlock) v2 ss := Kd.V_grown (Kd.R_V (Kd.R_tight rfl h.R1)) hg (fun k hk => h.okp_ne (.inl hk))
  have W2 : Kd.V Kd.bool 4 w1 w0.heap.size (fun k => some k = v3.ownBlock) v3 dd := Kd.V_grown (Kd.R_V (Kd.R_tight rfl h.R2)) hg (fun k hk => h.okp_ne (.inr hk))
  have hq : ∀ q, q ∈ 48 :: k48.E → q ≠ 46 := by decide
  have s0 := blk_put hs1 0 (.bool b) rfl
  have s1 := blk_put s0 1 v2 rfl
  have s2 := blk_put s1 2 v3 rfl
  exact {
    hl := blk_far (blk_far (blk_far hl1 ne _) ne _) ne _
    hs := s2
    V1 := Kd.V_far (Kd.V_far (Kd.V_far W1 (p := ⟨gs, 0, none⟩) ngs _) (p := ⟨gs, 1, none⟩) ngs _) (p := ⟨gs, 2, none⟩) ngs _
    V2 := Kd.V_far (Kd.V_far (Kd.V_far W2 (p := ⟨gs, 0, none⟩) ngs3 _) (p := ⟨gs, 1, none⟩) ngs3 _) (p := ⟨gs, 2, none⟩) ngs3 _
    HS := Kd.S_set (Kd.S_set (Kd.S_set HS1 hs1 hq 0 _) s0 hq 1 _) s1 hq 2 _
    hB := below_set (below_set (below_set hB1 h.gse) h.gse) h.gse
    gle := h.gle
    gse := h.gse }
theorem MdSt.at_ (h : MdSt w0 wr w gl gs gd lv sv dv v2 v3 ss dd v out) (hg : w.grownBy w1 v.ownBlock) : w1.heap[gd]? = some (.cells dv.toArray 48 (0, 0)) ∧ w1.heap[gs]? = some (.cells sv.toArray 46 (0, 0)) :=
  ⟨blk_grown h.hd hg (fun e => by have := (Kd.S_R h.HS).1 gd e.symm; have := h.gde; omega), blk_grown h.hs hg (Kd.S_ne h.HS h.hs (by decide))⟩
theorem MdSt.up (h : MdSt w0 wr w gl gs gd lv sv dv v2 v3 ss dd v out) (hb : Below w.heap.size w w') : MdSt w0 wr w' gl gs gd lv sv dv v2 v3 ss dd v out where
  hl := blk_below h.hl hb
  hs := blk_below h.hs hb
  hd := blk_below h.hd hb
  R1 := R_up h.R1 hb
  R2 := R_up h.R2 hb
  HS := Kd.S_below h.HS hb
  hB := below_step h.hB hb
  gle := h.gle
  gse := h.gse
  gde := h.gde
  hw := h.hw
theorem RnSt.midA {code : Int} {b : Bool} (h : RnSt w0 wr gl gs lv sv u1 u2 s v out) (hb : Below wr.heap.size wr w) (R1 : Kd.R k50 50 w wr.heap.size (fun _ => True) v2 ss) (R2 : Kd.R Kd.bool 4 w wr.heap.size (fun _ => True) v3 dd) :
    MdSt w0 wr (w.alloc (.cells #[.int .i64 code, .bool b, v2, v3] 48)) gl gs w.heap.size lv sv [.int .i64 code, .bool b, v2, v3] v2 v3 ss dd v out ∧ Below wr.heap.size wr (w.alloc (.cells #[.int .i64 code, .bool b, v2, v3] 48)) :=
  ⟨h.mid (below_alloc hb _) (heap_alloc_new w _) hb.size (R_up R1 (below_alloc (Below.refl _ _) _)) (R_up R2 (below_alloc (Below.refl _ _) _)), below_alloc hb _⟩
theorem RnSt.midB {code : Int} {b : Bool} {x0 x1 x2 x3 : Value} (h : RnSt w0 wr gl gs lv sv u1 u2 s v out) (hb : Below wr.heap.size wr w) (hd : w.heap[gd]? = some (.cells #[x0, x1, x2, x3] 48 (0, 0))) (gde : wr.heap.size ≤ gd) (R1 : Kd.R k50 50 w wr.heap.size (fun _ => True) v2 ss) (R2 : Kd.R Kd.bool 4 w wr.heap.size (fun _ => True) v3 dd) :
    MdSt w0 wr ((((w.setCell ⟨gd, 0, none⟩ (.int .i64 code)).setCell ⟨gd, 1, none⟩ (.bool b)).setCell ⟨gd, 2, none⟩ v2).setCell ⟨gd, 3, none⟩ v3) gl gs gd lv sv [.int .i64 code, .bool b, v2, v3] v2 v3 ss dd v out ∧
    Below wr.heap.size wr ((((w.setCell ⟨gd, 0, none⟩ (.int .i64 code)).setCell ⟨gd, 1, none⟩ (.bool b)).setCell ⟨gd, 2, none⟩ v2).setCell ⟨gd, 3, none⟩ v3) := by
  have B := below_set (j := 3) (v := v3) (below_set (j := 2) (v := v2) (below_set (j := 1) (v := .bool b) (below_set (j := 0) (v := .int .i64 code) hb gde) gde) gde) gde
  have n1 := Kd.R_ne R1 hd (by decide)
  have n2 := Kd.R_ne R2 hd (by decide)
  exact ⟨h.mid B (blk_put (blk_put (blk_put (blk_put hd 0 _ rfl) 1 _ rfl) 2 _ rfl) 3 _ rfl) gde (R_off rfl (R_off rfl (R_off rfl (R_off rfl R1 n1 _) n1 _) n1 _) n1 _) (R_off rfl (R_off rfl (R_off rfl (R_off rfl R2 n2 _) n2 _) n2 _) n2 _), B⟩
end
theorem alloc_blk {w w' : World} {o : Obj} (hb : Below (w.alloc o).heap.size (w.alloc o) w') : w'.heap[w.heap.size]? = some o := blk_below (heap_alloc_new w o) hb
theorem alloc_blk_drew {w w' : World} {o : Obj} (hb : Below (w.alloc o).drew.heap.size (w.alloc o).drew w') : w'.heap[w.heap.size]? = some o := blk_below (blk_drew (heap_alloc_new w o)) hb
theorem begin_is {n : Int} {A : Option Addr} {c : Nat} {l : List S88} {w : World} (hr : Kd.C k88 w A l.length l) (hc : l.length ≤ c) (hl : layoutOk n l = 0) :
    Calls Try.prog 44 #[.agg #[.int .i64 n, .slice A l.length c]] w fun e w' => ∃ v1_ v2_ : Value, e = .returned (.agg #[.bool true, v1_, v2_]) ∧ Kd.R k50 50 w' w.heap.size (fun _ => True) v1_ (st0 n l).f1 ∧ Kd.R Kd.bool 4 w' w.heap.size (fun _ => True) v2_ (st0 n l).f2 ∧ Below w.heap.size w w' := by
  have h := impl_Begin.calls n A c l (begin3 n l).1 (begin3 n l).2.1 (begin3 n l).2.2 w hr hc (implBegin_eq n l)
  rw [show begin3 n l = (true, (st0 n l).f1, (st0 n l).f2) by rw [begin3, if_pos hl]; rfl] at h
  exact h
end Go.Proofs.Ytpdnabhpkdchjaa.P
namespace Go.Proofs.Ytpdnabhpkdchjaa.P
open Go.RowKit Go.Proofs.YtpdnabhpkdchjaaW.PrintWords Go.Proofs.YtpdnabhpkdchjaaW.PrintLast Go.Proofs.YtpdnabhpkdchjaaW.PrintMore
attribute [local go_sem ↓] Go.wp_at_zero Go.wp_at_succ
set_option linter.unusedVariables false
set_option linter.unusedSimpArgs false
set_option maxHeartbeats 8000000 in
set_option maxRecDepth 100000 in
theorem run_is (n : Int) (A : Option Addr) (c : Nat) (l : List S88) (A1 : Option Addr) (c1 : Nat) (es : List S56) (w : World) (hr : Kd.C k88 w A l.length l) (hc : l.length ≤ c) (hr1 : Kd.C k56 w A1 es.length es) (hc1 : es.length ≤ c1) :
    Calls Try.prog 29 #[.agg #[.int .i64 n, .slice A l.length c], .slice A1 es.length c1] w fun e w' => ∃ v0_ : Value, e = .returned (v0_) ∧ Kd.S k48 48 w' w.heap.size (fun _ => True) v0_ (run n l es) ∧ Below w.heap.size w w' := by
  have HR := Aside0.mk hr
  have HC := Aside0.mk hc
  have HR1 := Aside0.mk hr1
  have HC1 := Aside0.mk hc1
  clear hr hc hr1 hc1
  by_cases hl : layoutOk n l = 0
  · by_cases he : es.length ≤ 2000
    · skip
      have b0 : (layoutOk n l != 0) = false := bne_eq_false_iff_eq.mpr hl
      have b1 : decide ((es.length : Int) > 2000) = false := decide_eq_false (by omega)
      have HL := Aside0.mk hl
      have HE := Aside0.mk he
      have HN := Aside0.mk (lay_n hl)
      clear hl he
      go_enter Try.func29, Try.ntmps29
      go_upto_region 5 with (first | ((with_reducible refine gate_dst (N := 2) rfl ?_); refine box_event ?hg (N := 2) ?hd (cs := #[.int .i64 n, .slice A l.length c]) (t := 30) ?hr ?_; (case hd => rfl); (case hg => rfl); (case hr => first | (go_simp; done) | (go_simp; rfl)); intro gl el wl kl bl; have hcz0 := (blk_cell kl 0).trans (show _ = some (Value.int .i64 n) from rfl); have hcz1 := (blk_cell kl 1).trans (show _ = some (Value.slice A l.length c) from rfl); have KL := Aside0.mk kl; have BL := Aside0.mk bl; have GL := Aside0.mk (show w.heap.size ≤ gl by rw [el]; exact Nat.le_refl _); clear kl bl el) | (go_at_call 25; refine (lay_is (Kd.C_below HR.out BL.out) HC.out).mono ?_; rintro e w1 ⟨rfl, hb⟩; have KL := Aside0.mk (blk_below KL.out hb); have BL := Aside0.mk (below_step BL.out hb); clear hb; have hcy0 := (blk_cell KL.out 0).trans (show _ = some (Value.int .i64 n) from rfl); have hcy1 := (blk_cell KL.out 1).trans (show _ = some (Value.slice A l.length c) from rfl)) | (go_at_call 44; refine (begin_is (Kd.C_below HR.out BL.out) HC.out HL.out).mono ?_; rintro e w2 ⟨v1, v2, rfl, r1, r2, hb⟩; obtain ⟨a1, d1, rfl⟩ := Kd.R_slice r1; obtain ⟨a2, d2, rfl⟩ := Kd.R_slice r2; have R1 := Aside0.mk (Kd.R_lower r1 BL.out.size); have R2 := Aside0.mk (Kd.R_lower r2 BL.out.size); have KL := Aside0.mk (blk_below KL.out hb); have BL := Aside0.mk (below_step BL.out hb); clear hb r1 r2) | ((with_reducible refine gate_dst (N := 6) rfl ?_); refine box_event ?hg (N := 6) ?hd (cs := #[.bool false, .slice none 0 0, .slice none 0 0]) (t := 46) ?hr ?_; (case hd => rfl); (case hg => rfl); (case hr => first | (go_simp; done) | (go_simp; rfl)); intro gs es_ ws ks bs; have KS := Aside0.mk ks; have ES := Aside0.mk es_; have BS := Aside0.mk bs; have zs0 := blk_frozen ks 0; have zs1 := blk_frozen ks 1; have zs2 := blk_frozen ks 2; have ks0 := (blk_cell ks 0).trans (show _ = some (Value.bool false) from rfl); have ks1 := (blk_cell ks 1).trans (show _ = some (Value.slice none 0 0) from rfl); have ks2 := (blk_cell ks 2).trans (show _ = some (Value.slice none 0 0) from rfl); clear ks es_ bs))
      clear hcz0 hcz1 hcy0 hcy1
      have BX := Aside0.mk (below_set (j := 2) (v := .slice a2 (st0 n l).f2.length d2) (below_set (j := 1) (v := .slice a1 (st0 n l).f1.length d1) (below_set (j := 0) (v := .bool true) BS.out (Nat.le_of_eq ES.out.symm)) (Nat.le_of_eq ES.out.symm)) (Nat.le_of_eq ES.out.symm))
      have KX := Aside0.mk (blk_put (blk_put (blk_put KS.out 0 (.bool true) rfl) 1 (.slice a1 (st0 n l).f1.length d1) rfl) 2 (.slice a2 (st0 n l).f2.length d2) rfl)
      have ST := Aside0.mk (show RnSt w (((ws.setCell ⟨gs, 0, none⟩ (.bool true)).setCell ⟨gs, 1, none⟩ (.slice a1 (st0 n l).f1.length d1)).setCell ⟨gs, 2, none⟩ (.slice a2 (st0 n l).f2.length d2)) gl gs [.int .i64 n, .slice A l.length c] [.bool true, .slice a1 (st0 n l).f1.length d1, .slice a2 (st0 n l).f2.length d2] (.slice a1 (st0 n l).f1.length d1) (.slice a2 (st0 n l).f2.length d2) (st0 n l) (.slice none 0 0) [] from ⟨blk_below KL.out BX.out, KX.out, Kd.V_below (Kd.R_V (Kd.R_tight rfl R1.out)) BX.out, Kd.V_below (Kd.R_V (Kd.R_tight rfl R2.out)) BX.out, Kd.S_nil _ _ _ _ _, below_step BL.out BX.out, GL.out, by rw [ES.out]; exact BL.out.size⟩)
      clear KL BL R1 R2 KS ES BS zs0 zs1 zs2 ks0 ks1 ks2 BX KX
      generalize (((ws.setCell ⟨gs, 0, none⟩ (.bool true)).setCell ⟨gs, 1, none⟩ (.slice a1 (st0 n l).f1.length d1)).setCell ⟨gs, 2, none⟩ (.slice a2 (st0 n l).f2.length d2)) = wa at ST ⊢
      go_wp2_with fail
      go_loopg [5, 22] es.length (fun kq vo v22 w' => ∃ j : Nat, v22 = .int .i64 j ∧ Aside0 (j + kq = es.length) ∧ ∃ u1 u2 : Value, Aside0 (RnSt w w' gl gs [.int .i64 n, .slice A l.length c] [.bool true, u1, u2] u1 u2 (stAt n l es j) vo (runTo n l es j)))
      case atStart => exact ⟨0, rfl, ⟨by omega⟩, _, _, ⟨by rw [stAt_zero]; exact ST.out⟩⟩
      case round =>
        clear ST
        obtain ⟨j, rfl, HJ, u1, u2, ST⟩ := hrel
        by_cases hlt : j < es.length
        · cases gk with
          | zero => exact absurd HJ.out (by omega)
          | succ gk =>
            have hlt' : decide ((j : Int) < (es.length : Int)) = true := decide_eq_true (by omega)
            have q0 : (0 : Int) ≤ (j : Int) := by omega
            have q1 : (j : Int) < (es.length : Int) := by omega
            obtain ⟨a1, d1, e1⟩ := Kd.V_slice ST.out.V1
            obtain ⟨a2, d2, e2⟩ := Kd.V_slice ST.out.V2
            subst e1 e2
            obtain ⟨ad, e, x0, x1, x2⟩ := at_T56 HR1.out (j : Int) q0 q1
            subst e
            replace x0 := pw_cell_below ST.out.hB x0
            replace x1 := pw_cell_below ST.out.hB x1
            replace x2 := pw_cell_below ST.out.hB x2
            rw [Int.toNat_natCast] at x0 x1 x2
            have HSU := Aside0.mk (stAt_succ n l es j hlt)
            have HRU := Aside0.mk (runTo_succ n l es j)
            have HLT := Aside0.mk (stAt_len n l es j)
            have HSO := Aside0.mk (stAt_ok HL.out es j)
            generalize hx : rd_T56 es (j : Int) = x at x0 x1 x2 HSU HRU
            clear hx
            generalize hst : stAt n l es j = s at ST HSU HRU HLT HSO ⊢
            clear hst
            go_upto_region 8 with ((with_reducible refine gate_dst (N := 8) rfl ?_); refine box_event ?hg (N := 8) ?hd (cs := #[.int .i64 0, .int .i64 0, .int .i64 0]) (t := 56) ?hr ?_; (case hd => rfl); (case hg => rfl); (case hr => first | (go_simp; done) | (go_simp; rfl)); intro ge ee we ke be; have KE := Aside0.mk ke; have EE := Aside0.mk ee; have BE := Aside0.mk be; have z0 := blk_frozen ke 0; have z1 := blk_frozen ke 1; have z2 := blk_frozen ke 2; have c0_ := (blk_cell ke 0).trans (show _ = some (Value.int .i64 0) from rfl); have c1_ := (blk_cell ke 1).trans (show _ = some (Value.int .i64 0) from rfl); have c2_ := (blk_cell ke 2).trans (show _ = some (Value.int .i64 0) from rfl); clear ke ee be)
            have KX := Aside0.mk (blk_put (blk_put (blk_put KE.out 0 (.int .i64 x.f0) rfl) 1 (.int .i64 x.f1) rfl) 2 (.int .i64 x.f2) rfl)
            have BX := Aside0.mk (below_set (j := 2) (v := .int .i64 x.f2) (below_set (j := 1) (v := .int .i64 x.f1) (below_set (j := 0) (v := .int .i64 x.f0) BE.out (Nat.le_of_eq EE.out.symm)) (Nat.le_of_eq EE.out.symm)) (Nat.le_of_eq EE.out.symm))
            clear KE BE EE z0 z1 z2 c0_ c1_ c2_ x0 x1 x2
            generalize (((we.setCell ⟨ge, 0, none⟩ (.int .i64 x.f0)).setCell ⟨ge, 1, none⟩ (.int .i64 x.f1)).setCell ⟨ge, 2, none⟩ (.int .i64 x.f2)) = w8 at KX BX ⊢
            go_cut [9] from 24 to 33 (fun v9 wx => ∃ (gd : Nat) (b2 b3 : Option Addr) (f2 f3 : Nat), v9 = .pointer (some ⟨gd, 0, none⟩) ∧ Aside0 (MdSt w wr wx gl gs gd [.int .i64 n, .slice A l.length c] [.bool true, .slice a1 s.f1.length d1, .slice a2 s.f2.length d2] [.int .i64 1, .bool true, (.slice b2 s.f1.length f2), (.slice b3 s.f2.length f3)] (.slice b2 s.f1.length f2) (.slice b3 s.f2.length f3) s.f1 s.f2 u5 (runTo n l es j) ∧ Below wr.heap.size wr wx ∧ wx.heap[ge]? = some (.cells #[.int .i64 x.f0, .int .i64 x.f1, .int .i64 x.f2] 56 (0, 0))))
            case first =>
              have f1 : impl_Section.f s.f1 = some s.f1 := by unfold impl_Section.f; rw [if_pos (by rw [HLT.out.1]; have := HN.out; omega)]
              have f2 : slices_Clone_bool_bool.f s.f2 = some s.f2 := by unfold slices_Clone_bool_bool.f; rw [if_pos (by rw [HLT.out.2.1]; have := HN.out; omega)]
              have F1 := Aside0.mk f1
              have F2 := Aside0.mk f2
              clear f1 f2
              have e1 : w8.cell? ⟨gs, 1, none⟩ = some (.slice a1 s.f1.length d1) := (blk_cell (blk_below ST.out.hs BX.out) 1).trans rfl
              have e2 : w8.cell? ⟨gs, 2, none⟩ = some (.slice a2 s.f2.length d2) := (blk_cell (blk_below ST.out.hs BX.out) 2).trans rfl
              have bx := Aside0.mk BX.out
              have ke := Aside0.mk KX.out
              have ksb := Aside0.mk (blk_below ST.out.hs BX.out)
              have KD : True := trivial
              have ng : True := trivial
              go_region_held3 (fun w' => w'.cell? ⟨gs, 1, none⟩ = some (.slice a1 s.f1.length d1) ∧ w'.cell? ⟨gs, 2, none⟩ = some (.slice a2 s.f2.length d2))
                (((with_reducible refine ⟨(blk_cell (cs := #[.bool true, (.slice a1 s.f1.length d1), (.slice a2 s.f2.length d2)]) (t := 46) ?_ 1).trans ?_, (blk_cell (cs := #[.bool true, (.slice a1 s.f1.length d1), (.slice a2 s.f2.length d2)]) (t := 46) ?_ 2).trans ?_⟩) <;> (first | with_reducible exact ksb.out | (with_reducible rfl) | (refine blk_below ksb.out ?_; (repeat (first | (with_reducible exact Below.refl _ _) | (with_reducible apply below_drew1) | (with_reducible apply below_alloc))); done) | (with_reducible refine blk_far ?_ (Ne.symm ng) _; with_reducible refine blk_far ?_ (Ne.symm ng) _; with_reducible refine blk_far ?_ (Ne.symm ng) _; with_reducible refine blk_far ?_ (Ne.symm ng) _; with_reducible exact ksb.out) | rfl)))
                (first | (go_at_call 94; refine (impl_Section.calls a1 d1 s.f1 s.f1 _ (Kd.V_reads' (Kd.V_below ST.out.V1 (by repeat (first | (with_reducible exact bx.out) | (with_reducible apply below_drew1) | (with_reducible apply below_alloc) | fail)))).2.2 (Kd.V_reads' ST.out.V1).2.1 F1.out).mono ?_; rintro e w' ⟨v1, rfl, ho1, hb⟩; obtain ⟨v1_a, v1_c, rfl⟩ := Kd.R_slice ho1; have HO1 := Aside0.mk (Kd.R_lower (base' := wr.heap.size) ho1 (show Below wr.heap.size wr _ from (by repeat (first | (with_reducible exact bx.out) | (with_reducible apply below_drew1) | (with_reducible apply below_alloc) | fail))).size); (first | (have HO2 := Aside0.mk (R_up HO2.out (by first | with_reducible exact hb | exact below_step (by repeat (first | (with_reducible exact Below.refl _ _) | (with_reducible apply below_drew1) | (with_reducible apply below_alloc) | fail)) hb | fail))) | skip); (first | (have KD := Aside0.mk (blk_below KD.out hb)) | (have KD := Aside0.mk (by with_reducible exact alloc_blk hb); have GD := Aside0.mk bx.out.size) | (have KD := Aside0.mk (by with_reducible exact alloc_blk_drew hb); have GD := Aside0.mk bx.out.size) | skip); (try (have zd0 := blk_frozen KD.out 0; have zd1 := blk_frozen KD.out 1; have zd2 := blk_frozen KD.out 2; have zd3 := blk_frozen KD.out 3; have kd0 := (blk_cell KD.out 0).trans (show _ = some (Value.int .i64 0) from rfl); have kd1 := (blk_cell KD.out 1).trans (show _ = some (Value.bool false) from rfl); have kd2 := (blk_cell KD.out 2).trans (show _ = some (Value.slice none 0 0) from rfl); have kd3 := (blk_cell KD.out 3).trans (show _ = some (Value.slice none 0 0) from rfl))); have ke := Aside0.mk (blk_below ke.out (by first | with_reducible exact hb | exact below_step (by repeat (first | (with_reducible exact Below.refl _ _) | (with_reducible apply below_drew1) | (with_reducible apply below_alloc) | fail)) hb | fail)); have ksb := Aside0.mk (blk_below ksb.out (by first | with_reducible exact hb | exact below_step (by repeat (first | (with_reducible exact Below.refl _ _) | (with_reducible apply below_drew1) | (with_reducible apply below_alloc) | fail)) hb | fail)); (try (have ng := blk_ne KD.out ksb.out (by decide))); have bx := Aside0.mk (below_step bx.out (by first | with_reducible exact hb | exact below_step (by repeat (first | (with_reducible exact Below.refl _ _) | (with_reducible apply below_drew1) | (with_reducible apply below_alloc) | fail)) hb | fail)); clear hb ho1) | (go_at_call 95; refine (slices_Clone_bool_bool.calls a2 d2 s.f2 s.f2 _ (Kd.V_reads' (Kd.V_below ST.out.V2 (by repeat (first | (with_reducible exact bx.out) | (with_reducible apply below_drew1) | (with_reducible apply below_alloc) | fail)))).2.2 (Kd.V_reads' ST.out.V2).2.1 F2.out).mono ?_; rintro e w' ⟨v2, rfl, ho2, hb⟩; obtain ⟨v2_a, v2_c, rfl⟩ := Kd.R_slice ho2; have HO2 := Aside0.mk (Kd.R_lower (base' := wr.heap.size) ho2 (show Below wr.heap.size wr _ from (by repeat (first | (with_reducible exact bx.out) | (with_reducible apply below_drew1) | (with_reducible apply below_alloc) | fail))).size); (first | (have HO1 := Aside0.mk (R_up HO1.out (by first | with_reducible exact hb | exact below_step (by repeat (first | (with_reducible exact Below.refl _ _) | (with_reducible apply below_drew1) | (with_reducible apply below_alloc) | fail)) hb | fail))) | skip); (first | (have KD := Aside0.mk (blk_below KD.out hb)) | (have KD := Aside0.mk (by with_reducible exact alloc_blk hb); have GD := Aside0.mk bx.out.size) | (have KD := Aside0.mk (by with_reducible exact alloc_blk_drew hb); have GD := Aside0.mk bx.out.size) | skip); (try (have zd0 := blk_frozen KD.out 0; have zd1 := blk_frozen KD.out 1; have zd2 := blk_frozen KD.out 2; have zd3 := blk_frozen KD.out 3; have kd0 := (blk_cell KD.out 0).trans (show _ = some (Value.int .i64 0) from rfl); have kd1 := (blk_cell KD.out 1).trans (show _ = some (Value.bool false) from rfl); have kd2 := (blk_cell KD.out 2).trans (show _ = some (Value.slice none 0 0) from rfl); have kd3 := (blk_cell KD.out 3).trans (show _ = some (Value.slice none 0 0) from rfl))); have ke := Aside0.mk (blk_below ke.out (by first | with_reducible exact hb | exact below_step (by repeat (first | (with_reducible exact Below.refl _ _) | (with_reducible apply below_drew1) | (with_reducible apply below_alloc) | fail)) hb | fail)); have ksb := Aside0.mk (blk_below ksb.out (by first | with_reducible exact hb | exact below_step (by repeat (first | (with_reducible exact Below.refl _ _) | (with_reducible apply below_drew1) | (with_reducible apply below_alloc) | fail)) hb | fail)); (try (have ng := blk_ne KD.out ksb.out (by decide))); have bx := Aside0.mk (below_step bx.out (by first | with_reducible exact hb | exact below_step (by repeat (first | (with_reducible exact Below.refl _ _) | (with_reducible apply below_drew1) | (with_reducible apply below_alloc) | fail)) hb | fail)); clear hb ho2))
              all_goals (go_wp2_with fail; go_meet)
              all_goals first | exact ⟨_, _, _, _, _, rfl, ⟨(ST.out.midA bx.out HO1.out HO2.out).1, (ST.out.midA bx.out HO1.out HO2.out).2, blk_below ke.out (below_alloc (Below.refl _ _) _)⟩⟩ | exact ⟨_, _, _, _, _, rfl, ⟨(ST.out.midB bx.out KD.out GD.out HO1.out HO2.out).1, (ST.out.midB bx.out KD.out GD.out HO1.out HO2.out).2, blk_far (blk_far (blk_far (blk_far ke.out (blk_ne ke.out KD.out (by decide)) _) (blk_ne ke.out KD.out (by decide)) _) (blk_ne ke.out KD.out (by decide)) _) (blk_ne ke.out KD.out (by decide)) _⟩⟩
            case rest =>
              obtain ⟨gd, b2, b3, f2, f3, rfl, HM⟩ := hcut
              clear KX BX
              have kl0 : wc.cell? ⟨gl, 0, none⟩ = some (.int .i64 n) := (blk_cell HM.out.1.hl 0).trans rfl
              have kl1 : wc.cell? ⟨gl, 1, none⟩ = some (.slice A l.length c) := (blk_cell HM.out.1.hl 1).trans rfl
              have ke0 : wc.cell? ⟨ge, 0, none⟩ = some (.int .i64 x.f0) := (blk_cell HM.out.2.2 0).trans rfl
              have ke1 : wc.cell? ⟨ge, 1, none⟩ = some (.int .i64 x.f1) := (blk_cell HM.out.2.2 1).trans rfl
              have ke2 : wc.cell? ⟨ge, 2, none⟩ = some (.int .i64 x.f2) := (blk_cell HM.out.2.2 2).trans rfl
              have ks0 : wc.cell? ⟨gs, 0, none⟩ = some (.bool true) := (blk_cell HM.out.1.hs 0).trans rfl
              have ks1 : wc.cell? ⟨gs, 1, none⟩ = some (.slice a1 s.f1.length d1) := (blk_cell HM.out.1.hs 1).trans rfl
              have ks2 : wc.cell? ⟨gs, 2, none⟩ = some (.slice a2 s.f2.length d2) := (blk_cell HM.out.1.hs 2).trans rfl
              cases hok : eventOk n l x.f0 x.f1 x.f2 with
              | false =>
                have HO := Aside0.mk hok
                clear hok
                have HST := Aside0.mk (show runStep n l s x = ⟨1, ⟨true, s.f1, s.f2⟩⟩ by unfold runStep; rw [HO.out]; rfl)
                go_upto_region 11 with (go_at_call 36; refine (ev_at x.f0 x.f1 x.f2 HO.out (Kd.C_below HR.out HM.out.1.hB) HC.out).mono ?_; rintro e wd ⟨rfl, hb⟩; have HM2 := Aside0.mk (And.intro (HM.out.1.up hb) (And.intro (below_step HM.out.2.1 hb) (blk_below HM.out.2.2 hb))); clear hb; have kd0 : wd.cell? ⟨gd, 0, none⟩ = some (.int .i64 1) := (blk_cell HM2.out.1.hd 0).trans rfl; have kd1 : wd.cell? ⟨gd, 1, none⟩ = some (.bool true) := (blk_cell HM2.out.1.hd 1).trans rfl; have kd2 : wd.cell? ⟨gd, 2, none⟩ = some (.slice b2 s.f1.length f2) := (blk_cell HM2.out.1.hd 2).trans rfl; have kd3 : wd.cell? ⟨gd, 3, none⟩ = some (.slice b3 s.f2.length f3) := (blk_cell HM2.out.1.hd 3).trans rfl)
                clear kl0 kl1 ke0 ke1 ke2 ks0 ks1 ks2
                go_wp2_with (at_builtin; refine Kd.S_append k48 (w0 := w) w.heap.size rfl (.tmp 41) (.tmp 43) 38 48 (.agg #[.int .i64 0, .bool false, .slice none 0 0, .slice none 0 0]) 64 rfl Try.underlying38 info48 rfl (by decide) (by decide) u5 (runTo n l es j) ⟨1, ⟨true, s.f1, s.f2⟩⟩ [.int .i64 (1), .bool true, (.slice b2 s.f1.length f2), (.slice b3 s.f2.length f3)] (fun _ => True) (okp (.slice b2 s.f1.length f2) (.slice b3 s.f2.length f3)) rfl rfl (HM2.out.1.elem (1) true) (fun k hk => ⟨trivial, HM2.out.1.okp_ne hk⟩) (fun _ _ => trivial) HM2.out.1.rest HM2.out.1.hB HM2.out.1.hB.size (by rw [runTo_length]; have := HE.out; omega) ?_; intro vn wn hsn hbn hgn _; have HSN := Aside0.mk hsn; have HBN := Aside0.mk hbn; have HGN := Aside0.mk hgn; have KD := Aside0.mk (HM2.out.1.at_ hgn).1; have KS := Aside0.mk (HM2.out.1.at_ hgn).2; clear hsn hbn hgn; have kd0 : wn.cell? ⟨gd, 0, none⟩ = some (.int .i64 (1)) := (blk_cell KD.out 0).trans rfl; have kd1 : wn.cell? ⟨gd, 1, none⟩ = some (.bool true) := (blk_cell KD.out 1).trans rfl; have kd2 : wn.cell? ⟨gd, 2, none⟩ = some (.slice b2 s.f1.length f2) := (blk_cell KD.out 2).trans rfl; have kd3 : wn.cell? ⟨gd, 3, none⟩ = some (.slice b3 s.f2.length f3) := (blk_cell KD.out 3).trans rfl; have kt0 : wn.cell? ⟨gs, 0, none⟩ = some (.bool true) := (blk_cell KS.out 0).trans rfl; have kt1 : wn.cell? ⟨gs, 1, none⟩ = some (.slice a1 s.f1.length d1) := (blk_cell KS.out 1).trans rfl; have kt2 : wn.cell? ⟨gs, 2, none⟩ = some (.slice a2 s.f2.length d2) := (blk_cell KS.out 2).trans rfl; have zt0 := blk_frozen KS.out 0; have zt1 := blk_frozen KS.out 1; have zt2 := blk_frozen KS.out 2)
                have SN := Aside0.mk (HM2.out.1.fin HSN.out HBN.out HGN.out)
                go_roundg gk
                case measure => omega
                case rel => exact ⟨j + 1, congrArg (Value.int .i64) (wrap_succ (by have := HE.out; omega)), ⟨by have := HJ.out; omega⟩, _, _, ⟨by rw [HSU.out, HRU.out, HST.out]; exact SN.out⟩⟩
              | true =>
                have HO := Aside0.mk hok
                clear hok
                have HST := Aside0.mk (show runStep n l s x = ⟨doCode l s.f1 s.f2 x.f0 x.f1, ⟨true, doSecs l s.f1 s.f2 x.f0 x.f1 x.f2, doDead l s.f1 s.f2 x.f0 x.f1⟩⟩ by unfold runStep; rw [if_pos HO.out])
                go_upto_region 11 with (first | (go_at_call 36; refine (ev_at x.f0 x.f1 x.f2 HO.out (Kd.C_below HR.out HM.out.1.hB) HC.out).mono ?_; rintro e wd ⟨rfl, hb⟩; have HM2 := Aside0.mk (And.intro (HM.out.1.up hb) (And.intro (below_step HM.out.2.1 hb) (blk_below HM.out.2.2 hb))); clear hb; have kl0 : wd.cell? ⟨gl, 0, none⟩ = some (.int .i64 n) := (blk_cell HM2.out.1.hl 0).trans rfl; have kl1 : wd.cell? ⟨gl, 1, none⟩ = some (.slice A l.length c) := (blk_cell HM2.out.1.hl 1).trans rfl; have ke0 : wd.cell? ⟨ge, 0, none⟩ = some (.int .i64 x.f0) := (blk_cell HM2.out.2.2 0).trans rfl; have ke1 : wd.cell? ⟨ge, 1, none⟩ = some (.int .i64 x.f1) := (blk_cell HM2.out.2.2 1).trans rfl; have ke2 : wd.cell? ⟨ge, 2, none⟩ = some (.int .i64 x.f2) := (blk_cell HM2.out.2.2 2).trans rfl; have ks0 : wd.cell? ⟨gs, 0, none⟩ = some (.bool true) := (blk_cell HM2.out.1.hs 0).trans rfl; have ks1 : wd.cell? ⟨gs, 1, none⟩ = some (.slice a1 s.f1.length d1) := (blk_cell HM2.out.1.hs 1).trans rfl; have ks2 : wd.cell? ⟨gs, 2, none⟩ = some (.slice a2 s.f2.length d2) := (blk_cell HM2.out.1.hs 2).trans rfl) | (go_at_call 96; refine (do_is n A c l true a1 d1 s.f1 a2 d2 s.f2 x.f0 x.f1 x.f2 _ (Kd.C_below HR.out HM2.out.1.hB) HC.out (Kd.V_reads' (Kd.V_below ST.out.V1 HM2.out.2.1)).2.2 (Kd.V_reads' ST.out.V1).2.1 (Kd.V_reads' (Kd.V_below ST.out.V2 HM2.out.2.1)).2.2 (Kd.V_reads' ST.out.V2).2.1 HL.out (by rw [HLT.out.1]; have := HN.out; omega) HLT.out.2.1 HO.out).mono ?_; rintro e wf ⟨v2, v3, rfl, r1, r2, hb⟩; obtain ⟨b4, f4, rfl⟩ := Kd.R_slice r1; obtain ⟨b5, f5, rfl⟩ := Kd.R_slice r2; have KD := Aside0.mk (blk_below HM2.out.1.hd hb); have NR1 := Aside0.mk (Kd.R_lower r1 HM2.out.2.1.size); have NR2 := Aside0.mk (Kd.R_lower r2 HM2.out.2.1.size); have BF := Aside0.mk (below_step HM2.out.2.1 hb); clear r1 r2 hb; have kd0 : wf.cell? ⟨gd, 0, none⟩ = some (.int .i64 1) := (blk_cell KD.out 0).trans rfl; have kd1 : wf.cell? ⟨gd, 1, none⟩ = some (.bool true) := (blk_cell KD.out 1).trans rfl; have kd2 : wf.cell? ⟨gd, 2, none⟩ = some (.slice b2 s.f1.length f2) := (blk_cell KD.out 2).trans rfl; have kd3 : wf.cell? ⟨gd, 3, none⟩ = some (.slice b3 s.f2.length f3) := (blk_cell KD.out 3).trans rfl; have zd0 := blk_frozen KD.out 0; have zd1 := blk_frozen KD.out 1; have zd2 := blk_frozen KD.out 2; have zd3 := blk_frozen KD.out 3))
                clear kl0 kl1 ke0 ke1 ke2 ks0 ks1 ks2 kd0 kd1 kd2 kd3 zd0 zd1 zd2 zd3
                have HM3 := Aside0.mk (ST.out.midB (code := (doCode l s.f1 s.f2 x.f0 x.f1)) (b := true) BF.out KD.out HM2.out.1.gde NR1.out NR2.out)
                clear HM HM2 KD NR1 NR2 BF
                generalize ((((wf.setCell ⟨gd, 0, none⟩ (.int .i64 (doCode l s.f1 s.f2 x.f0 x.f1))).setCell ⟨gd, 1, none⟩ (.bool true)).setCell ⟨gd, 2, none⟩ (.slice b4 (doSecs l s.f1 s.f2 x.f0 x.f1 x.f2).length f4)).setCell ⟨gd, 3, none⟩ (.slice b5 (doDead l s.f1 s.f2 x.f0 x.f1).length f5)) = wg at HM3 ⊢
                have kd0 : wg.cell? ⟨gd, 0, none⟩ = some (.int .i64 (doCode l s.f1 s.f2 x.f0 x.f1)) := (blk_cell HM3.out.1.hd 0).trans rfl
                have kd1 : wg.cell? ⟨gd, 1, none⟩ = some (.bool true) := (blk_cell HM3.out.1.hd 1).trans rfl
                have kd2 : wg.cell? ⟨gd, 2, none⟩ = some (.slice b4 (doSecs l s.f1 s.f2 x.f0 x.f1 x.f2).length f4) := (blk_cell HM3.out.1.hd 2).trans rfl
                have kd3 : wg.cell? ⟨gd, 3, none⟩ = some (.slice b5 (doDead l s.f1 s.f2 x.f0 x.f1).length f5) := (blk_cell HM3.out.1.hd 3).trans rfl
                go_wp2_with (at_builtin; refine Kd.S_append k48 (w0 := w) w.heap.size rfl (.tmp 41) (.tmp 43) 38 48 (.agg #[.int .i64 0, .bool false, .slice none 0 0, .slice none 0 0]) 64 rfl Try.underlying38 info48 rfl (by decide) (by decide) u5 (runTo n l es j) ⟨(doCode l s.f1 s.f2 x.f0 x.f1), ⟨true, doSecs l s.f1 s.f2 x.f0 x.f1 x.f2, doDead l s.f1 s.f2 x.f0 x.f1⟩⟩ [.int .i64 ((doCode l s.f1 s.f2 x.f0 x.f1)), .bool true, (.slice b4 (doSecs l s.f1 s.f2 x.f0 x.f1 x.f2).length f4), (.slice b5 (doDead l s.f1 s.f2 x.f0 x.f1).length f5)] (fun _ => True) (okp (.slice b4 (doSecs l s.f1 s.f2 x.f0 x.f1 x.f2).length f4) (.slice b5 (doDead l s.f1 s.f2 x.f0 x.f1).length f5)) rfl rfl (HM3.out.1.elem ((doCode l s.f1 s.f2 x.f0 x.f1)) true) (fun k hk => ⟨trivial, HM3.out.1.okp_ne hk⟩) (fun _ _ => trivial) HM3.out.1.rest HM3.out.1.hB HM3.out.1.hB.size (by rw [runTo_length]; have := HE.out; omega) ?_; intro vn wn hsn hbn hgn _; have HSN := Aside0.mk hsn; have HBN := Aside0.mk hbn; have HGN := Aside0.mk hgn; have KD := Aside0.mk (HM3.out.1.at_ hgn).1; have KS := Aside0.mk (HM3.out.1.at_ hgn).2; clear hsn hbn hgn; have kd0 : wn.cell? ⟨gd, 0, none⟩ = some (.int .i64 ((doCode l s.f1 s.f2 x.f0 x.f1))) := (blk_cell KD.out 0).trans rfl; have kd1 : wn.cell? ⟨gd, 1, none⟩ = some (.bool true) := (blk_cell KD.out 1).trans rfl; have kd2 : wn.cell? ⟨gd, 2, none⟩ = some (.slice b4 (doSecs l s.f1 s.f2 x.f0 x.f1 x.f2).length f4) := (blk_cell KD.out 2).trans rfl; have kd3 : wn.cell? ⟨gd, 3, none⟩ = some (.slice b5 (doDead l s.f1 s.f2 x.f0 x.f1).length f5) := (blk_cell KD.out 3).trans rfl; have kt0 : wn.cell? ⟨gs, 0, none⟩ = some (.bool true) := (blk_cell KS.out 0).trans rfl; have kt1 : wn.cell? ⟨gs, 1, none⟩ = some (.slice a1 s.f1.length d1) := (blk_cell KS.out 1).trans rfl; have kt2 : wn.cell? ⟨gs, 2, none⟩ = some (.slice a2 s.f2.length d2) := (blk_cell KS.out 2).trans rfl; have zt0 := blk_frozen KS.out 0; have zt1 := blk_frozen KS.out 1; have zt2 := blk_frozen KS.out 2)
                have SN := Aside0.mk (HM3.out.1.fin HSN.out HBN.out HGN.out)
                go_roundg gk
                case measure => omega
                case rel => exact ⟨j + 1, congrArg (Value.int .i64) (wrap_succ (by have := HE.out; omega)), ⟨by have := HJ.out; omega⟩, _, _, ⟨by rw [HSU.out, HRU.out, HST.out]; exact SN.out⟩⟩
        · have hlt' : decide ((j : Int) < (es.length : Int)) = false := decide_eq_false (by omega)
          have hj : j = es.length := by have := HJ.out; omega
          have HRN := Aside0.mk (show runTo n l es j = run n l es by rw [run, if_pos ⟨HL.out, HE.out⟩, hj])
          clear hj
          go_wp2_with fail
          go_ret
          exact ⟨_, rfl, HRN.out ▸ ST.out.HS, ST.out.hB⟩
    · skip
      have b0 : (layoutOk n l != 0) = false := bne_eq_false_iff_eq.mpr hl
      have b1 : decide ((es.length : Int) > 2000) = true := decide_eq_true (by omega)
      have HV := Aside0.mk (show ([] : List S48) = run n l es by rw [run, if_neg (fun h => he h.2)])
      clear hl he
      go_enter Try.func29, Try.ntmps29
      go_wp2_with (first | ((with_reducible refine gate_dst (N := 2) rfl ?_); refine box_event ?hg (N := 2) ?hd (cs := #[.int .i64 n, .slice A l.length c]) (t := 30) ?hr ?_; (case hd => rfl); (case hg => rfl); (case hr => first | (go_simp; done) | (go_simp; rfl)); intro gl el wl kl bl; have hcz0 := (blk_cell kl 0).trans (show _ = some (Value.int .i64 n) from rfl); have hcz1 := (blk_cell kl 1).trans (show _ = some (Value.slice A l.length c) from rfl); have KL := Aside0.mk kl; have BL := Aside0.mk bl; have GL := Aside0.mk (show w.heap.size ≤ gl by rw [el]; exact Nat.le_refl _); clear kl bl el) | (go_at_call 25; refine (lay_is (Kd.C_below HR.out BL.out) HC.out).mono ?_; rintro e w1 ⟨rfl, hb⟩; have KL := Aside0.mk (blk_below KL.out hb); have BL := Aside0.mk (below_step BL.out hb); clear hb; have hcy0 := (blk_cell KL.out 0).trans (show _ = some (Value.int .i64 n) from rfl); have hcy1 := (blk_cell KL.out 1).trans (show _ = some (Value.slice A l.length c) from rfl)))
      go_ret
      exact ⟨_, rfl, HV.out ▸ Kd.S_nil _ _ _ _ _, BL.out⟩
  · skip
    have b0 : (layoutOk n l != 0) = true := bne_iff_ne.mpr hl
    have HV := Aside0.mk (show ([] : List S48) = run n l es by rw [run, if_neg (fun h => hl h.1)])
    clear hl
    go_enter Try.func29, Try.ntmps29
    go_wp2_with (first | ((with_reducible refine gate_dst (N := 2) rfl ?_); refine box_event ?hg (N := 2) ?hd (cs := #[.int .i64 n, .slice A l.length c]) (t := 30) ?hr ?_; (case hd => rfl); (case hg => rfl); (case hr => first | (go_simp; done) | (go_simp; rfl)); intro gl el wl kl bl; have hcz0 := (blk_cell kl 0).trans (show _ = some (Value.int .i64 n) from rfl); have hcz1 := (blk_cell kl 1).trans (show _ = some (Value.slice A l.length c) from rfl); have KL := Aside0.mk kl; have BL := Aside0.mk bl; have GL := Aside0.mk (show w.heap.size ≤ gl by rw [el]; exact Nat.le_refl _); clear kl bl el) | (go_at_call 25; refine (lay_is (Kd.C_below HR.out BL.out) HC.out).mono ?_; rintro e w1 ⟨rfl, hb⟩; have KL := Aside0.mk (blk_below KL.out hb); have BL := Aside0.mk (below_step BL.out hb); clear hb; have hcy0 := (blk_cell KL.out 0).trans (show _ = some (Value.int .i64 n) from rfl); have hcy1 := (blk_cell KL.out 1).trans (show _ = some (Value.slice A l.length c) from rfl)))
    go_ret
    exact ⟨_, rfl, HV.out ▸ Kd.S_nil _ _ _ _ _, BL.out⟩
end Go.Proofs.Ytpdnabhpkdchjaa.P
namespace Go.Proofs.Ytpdnabhpkdchjaa.P
open Go.RowKit Go.Proofs.YtpdnabhpkdchjaaW.PrintWords Go.Proofs.YtpdnabhpkdchjaaW.PrintLast Go.Proofs.YtpdnabhpkdchjaaW.PrintMore
attribute [local go_sem ↓] Go.wp_at_zero Go.wp_at_succ
set_option linter.unusedVariables false
set_option linter.unusedSimpArgs false
structure StSt (w0 w : World) (gl gz : Nat) (lv zv : List Value) : Prop where
  hB : Below w0.heap.size w0 w
  hl : w.heap[gl]? = some (.cells lv.toArray 30 (0, 0))
  hz : w.heap[gz]? = some (.cells zv.toArray 46 (0, 0))
structure SeSt (w0 w : World) (gl gz gx : Nat) (lv zv xv : List Value) : Prop where
  S : StSt w0 w gl gz lv zv
  hx : w.heap[gx]? = some (.cells xv.toArray 50 (0, 0))
section
variable {w0 w w' : World} {gl gz gx : Nat} {lv zv xv : List Value}
theorem StSt.up (h : StSt w0 w gl gz lv zv) (hb : Below w.heap.size w w') : StSt w0 w' gl gz lv zv := ⟨below_step h.hB hb, blk_below h.hl hb, blk_below h.hz hb⟩
theorem SeSt.up (h : SeSt w0 w gl gz gx lv zv xv) (hb : Below w.heap.size w w') : SeSt w0 w' gl gz gx lv zv xv := ⟨h.S.up hb, blk_below h.hx hb⟩
theorem StSt.fill {y0 y1 y2 y3 y4 x0 x1 x2 x3 x4 : Value} (h : StSt w0 w gl gz lv zv) (hx : w'.heap[gx]? = some (.cells #[x0, x1, x2, x3, x4] 50 (0, 0))) (hb : Below w.heap.size w w') (hg : w.heap.size ≤ gx) :
    SeSt w0 (((((w'.setCell ⟨gx, 0, none⟩ y0).setCell ⟨gx, 1, none⟩ y1).setCell ⟨gx, 2, none⟩ y2).setCell ⟨gx, 3, none⟩ y3).setCell ⟨gx, 4, none⟩ y4) gl gz gx lv zv [y0, y1, y2, y3, y4] := by
  have h2 := below_set (j := 4) (v := y4) (below_set (j := 3) (v := y3) (below_set (j := 2) (v := y2) (below_set (j := 1) (v := y1) (below_set (j := 0) (v := y0) hb hg) hg) hg) hg) hg
  exact ⟨h.up h2, blk_put (blk_put (blk_put (blk_put (blk_put hx 0 y0 rfl) 1 y1 rfl) 2 y2 rfl) 3 y3 rfl) 4 y4 rfl⟩
end
end Go.Proofs.Ytpdnabhpkdchjaa.P
namespace Go.Proofs.Ytpdnabhpkdchjaa.P
open Go.RowKit Go.Proofs.YtpdnabhpkdchjaaW.PrintWords Go.Proofs.YtpdnabhpkdchjaaW.PrintLast Go.Proofs.YtpdnabhpkdchjaaW.PrintMore
attribute [local go_sem ↓] Go.wp_at_zero Go.wp_at_succ
set_option linter.unusedVariables false
set_option linter.unusedSimpArgs false
structure SpSt (w0 w : World) (gl gz go ge gd : Nat) (lv zv sv ev dv : List Value) (v1 v2 : Value) (ss : List S50) (dd : List Bool) : Prop where
  D : DoSt w0 w gl go ge gd lv sv ev dv v1 v2 ss dd
  hz : w.heap[gz]? = some (.cells zv.toArray 46 (0, 0))
section
variable {w0 w w' : World} {gl gz go ge gd : Nat} {lv zv sv ev dv : List Value} {v1 v2 : Value} {ss ss' : List S50} {dd dd' : List Bool}
theorem SpSt.up (h : SpSt w0 w gl gz go ge gd lv zv sv ev dv v1 v2 ss dd) (hb : Below w.heap.size w w') : SpSt w0 w' gl gz go ge gd lv zv sv ev dv v1 v2 ss dd := ⟨h.D.up hb, blk_below h.hz hb⟩
theorem SpSt.sec {gr m cr : Nat} (h : SpSt w0 w gl gz go ge gd lv zv sv ev dv (.slice (some ⟨gr, 0, none⟩) m cr) v2 ss dd) (H1 : Kd.R k50 50 w' w0.heap.size (fun _ => True) (.slice (some ⟨gr, 0, none⟩) m cr) ss') (hg : w.grownBy w' (some gr)) :
    SpSt w0 w' gl gz go ge gd lv zv sv ev dv (.slice (some ⟨gr, 0, none⟩) m cr) v2 ss' dd := ⟨h.D.sec H1 hg, blk_grown h.hz hg (Kd.R_ne h.D.H1 h.hz (by decide))⟩
theorem SpSt.dead {gb m cb : Nat} (h : SpSt w0 w gl gz go ge gd lv zv sv ev dv v1 (.slice (some ⟨gb, 0, none⟩) m cb) ss dd) (i : Int) (x : Bool) :
    SpSt w0 (w.setCell ⟨gb, i.toNat, none⟩ (.bool x)) gl gz go ge gd lv zv sv ev dv v1 (.slice (some ⟨gb, 0, none⟩) m cb) ss (dd.set i.toNat x) :=
  ⟨h.D.dead i x, blk_grown h.hz (Kd.R_putg h.D.H2 i x).2 (Kd.R_ne h.D.H2 h.hz (by decide))⟩
end
end Go.Proofs.Ytpdnabhpkdchjaa.P
namespace Go.Proofs.Ytpdnabhpkdchjaa.P
open Go.RowKit Go.Proofs.YtpdnabhpkdchjaaW.PrintWords Go.Proofs.YtpdnabhpkdchjaaW.PrintLast Go.Proofs.YtpdnabhpkdchjaaW.PrintMore
set_option linter.unusedVariables false
set_option linter.unusedSimpArgs false
section
variable {w0 w w' : World} {g : Nat}
theorem fill5 {x0 x1 x2 x3 x4 y0 y1 y2 y3 y4 : Value} (hx : w'.heap[g]? = some (.cells #[x0, x1, x2, x3, x4] 50 (0, 0))) (hb : Below w.heap.size w w') (hg : w.heap.size ≤ g) :
    Below w.heap.size w (((((w'.setCell ⟨g, 0, none⟩ y0).setCell ⟨g, 1, none⟩ y1).setCell ⟨g, 2, none⟩ y2).setCell ⟨g, 3, none⟩ y3).setCell ⟨g, 4, none⟩ y4) ∧ (((((w'.setCell ⟨g, 0, none⟩ y0).setCell ⟨g, 1, none⟩ y1).setCell ⟨g, 2, none⟩ y2).setCell ⟨g, 3, none⟩ y3).setCell ⟨g, 4, none⟩ y4).heap[g]? = some (.cells #[y0, y1, y2, y3, y4] 50 (0, 0)) :=
  ⟨below_set (j := 4) (v := y4) (below_set (j := 3) (v := y3) (below_set (j := 2) (v := y2) (below_set (j := 1) (v := y1) (below_set (j := 0) (v := y0) hb hg) hg) hg) hg) hg, blk_put (blk_put (blk_put (blk_put (blk_put hx 0 y0 rfl) 1 y1 rfl) 2 y2 rfl) 3 y3 rfl) 4 y4 rfl⟩
end
end Go.Proofs.Ytpdnabhpkdchjaa.P
namespace Go.Proofs.Ytpdnabhpkdchjaa.Open
open Go.RowKit Go.Proofs.YtpdnabhpkdchjaaW.PrintWords Go.Proofs.YtpdnabhpkdchjaaW.PrintLast Go.Proofs.YtpdnabhpkdchjaaW.PrintMore
open Go.ChangeShapes Go.WideShapes Go.ChangeAt P
set_option maxRecDepth 100000
set_option linter.unusedVariables false
def kB : Kd {x : Int // 0 ≤ x ∧ x < 256} := Kd.iso (Kd.int .u8) Subtype.val
theorem wf_u8 {n : Int} (h : (Lit.int .u8 n).wf = true) : 0 ≤ n ∧ n < 256 := by
  have e1 : IntKind.u8.min = 0 := rfl
  have e2 : IntKind.u8.max = 255 := rfl
  simp [Lit.wf, e1, e2] at h
  omega
theorem oB : Opens Try.prog 5 kB := by
  intro H enc w base spare held fuel cs x h
  obtain ⟨n, rfl, _, hw⟩ := DataW.trod_int Try.underlying5 h
  exact ⟨⟨n, wf_u8 hw⟩, rfl⟩
theorem oBs : Opens Try.prog 34 (Kd.slice 5 kB) := opens_slice Try.underlying34 (by kernel_rfl) oB
theorem C_map {α β : Type} {d : Kd α} {f : β → α} {w : World} {A : Option Addr} {n : Nat} {xs : List β} (h : Kd.C (Kd.iso d f) w A n xs) : Kd.C d w A n (xs.map f) := by
  obtain ⟨h1, h2, h3⟩ := h
  refine ⟨by simpa using h1, h2, fun hn => ?_⟩
  obtain ⟨ad, e, hc⟩ := h3 hn
  refine ⟨ad, e, fun j p hp => ?_⟩
  rw [List.getElem?_map, Option.map_eq_some_iff] at hp
  obtain ⟨q, hq, rfl⟩ := hp
  exact hc j q hq
section
variable {H : Type} {enc : TypeId × Value → H} {W : World} {base b0 : Nat} {spare : Nat → Bool} {held : Bool} {v : Value} {x : DataW H} {ps : List MemPlace} {r : Reach}
theorem arg_bytes (hv : Value.okWide Try.prog W r b0 34 v) (h : DataW.Trod enc Try.prog W base spare held 34 v x ps) :
    ∃ A c l, v = .slice A l.length c ∧ Kd.C (Kd.int .u8) W A l.length l ∧ l.length ≤ c ∧ ∀ x ∈ l, 0 ≤ x ∧ x < 256 := by
  obtain ⟨A, c, l, e, h1, h2⟩ := arg_slice Try.underlying34 oBs hv h
  refine ⟨A, c, l.map Subtype.val, by rw [e, List.length_map], by rw [List.length_map]; exact C_map h1, by rw [List.length_map]; exact h2, fun x hx => ?_⟩
  obtain ⟨y, _, rfl⟩ := List.mem_map.1 hx
  exact y.2
end
end Go.Proofs.Ytpdnabhpkdchjaa.Open
namespace Go.Proofs.Ytpdnabhpkdchjaa.WalkFnJust
open P Go.RowKit Go.Proofs.YtpdnabhpkdchjaaW.PrintWords Go.Proofs.YtpdnabhpkdchjaaW.PrintLast Go.Proofs.YtpdnabhpkdchjaaW.PrintMore
set_option linter.unusedVariables false
set_option linter.unusedSimpArgs false
set_option maxHeartbeats 8000000 in
set_option maxRecDepth 100000 in
theorem walk (A : Option Addr) (c : Nat) (code : List Int) (w : World) (hr : Kd.C (Kd.int .u8) w A code.length code) (hc : code.length ≤ c) (hby : ∀ x ∈ code, 0 ≤ x ∧ x < 256) :
    Calls Try.prog 13 #[.slice A code.length c] w fun e w' => e = .returned (.bool true) ∧ Below w.heap.size w w' := by
  by_cases hbig : 1048576 < code.length
  · have hb1 : decide ((1048576 : Int) < (code.length : Int)) = true := decide_eq_true (by omega)
    clear hbig
    go_enter Try.func13, Try.ntmps13
    go_wp2_with fail
    go_ret
    exact ⟨rfl, Below.refl _ _⟩
  have hb1 : decide ((1048576 : Int) < (code.length : Int)) = false := decide_eq_false (by omega)
  obtain ⟨n, l, c', n0, n1, hll, hlo, hcc, hdr⟩ := drawn_is hby true
  obtain ⟨hev, hlen⟩ := evDraw_ok (ho := true) hlo hcc (by decide)
  obtain ⟨es, hes⟩ : ∃ es, (evDraw code n l true c').out = es := ⟨_, rfl⟩
  have HEV := Aside0.mk hev
  have HES := Aside0.mk hes
  rw [hes] at hlen
  have hdr2 := hdr A c w hr
  rw [hes] at hdr2
  have HDR := Aside0.mk hdr2
  have HL := Aside0.mk hlo
  have HLEN := Aside0.mk hlen
  have HN := Aside0.mk (And.intro n0 n1)
  clear hbig hr hc hby hdr hdr2 hes hlo hcc hev hlen hll n0 n1
  obtain ⟨ps, hps⟩ : ∃ ps, es.filter isP = ps := ⟨_, rfl⟩
  have HPS := Aside0.mk hps
  have HON := Aside0.mk (show HonP n l ps ∧ (∀ e ∈ ps, eventOk n l e.f0 e.f1 e.f2 = true) ∧ (∀ e ∈ ps, e.f0 = 1) ∧ ps.length ≤ 30 by
    rw [← HPS.out]
    refine ⟨just_hon (by rw [← HES.out]; exact (HEV.out.hon rfl).1), fun e he => ?_, fun e he => by simpa [isP] using (List.mem_filter.1 he).2, Nat.le_trans (List.length_filter_le _ _) HLEN.out⟩
    have := (List.mem_filter.1 he).1
    rw [← HES.out] at this
    exact HEV.out.ok e this)
  clear hps
  have HD := Aside0.mk (gaps_dims n l ps)
  have HRL := Aside0.mk (show (run n l ps).length = ps.length by rw [run, if_pos ⟨HL.out, by have := HON.out.2.2.2; omega⟩, runTo_length])
  have HSN := Aside0.mk (show ∀ i : Nat, i < (run n l ps).length → (rd_T48 (run n l ps) (i : Int)).f0 = 0 ∧ (((rd_T48 (run n l ps) (i : Int)).f1.f1.length : Int) = n) ∧ ∀ j : Nat, j < (rd_T48 (run n l ps) (i : Int)).f1.f1.length → (rd_T50 (rd_T48 (run n l ps) (i : Int)).f1.f1 (j : Int)).f1 = rd (rd_L12 (truth n l ps) (i : Int)) (j : Int) ∧ ((rd_T50 (rd_T48 (run n l ps) (i : Int)).f1.f1 (j : Int)).f0 == 0) = (rd (rd_L12 (truth n l ps) (i : Int)) (j : Int) == 0) ∧ (rd_T50 (rd_T48 (run n l ps) (i : Int)).f1.f1 (j : Int)).f0 ≤ 1 from by
    have he : ps.length ≤ 2000 := by have := HON.out.2.2.2; omega
    have hn := HN.out
    rw [run, if_pos ⟨HL.out, he⟩]
    intro i hi
    rw [runTo_length] at hi
    have hj := just_told HL.out he HON.out.2.1 HON.out.2.2.1 HON.out.1 i hi
    rw [rd_runTo n l ps _ i hi, truth_rd HL.out he i hi, ← stAt_succ n l ps i hi]
    have hl2 := (stAt_len n l ps (i + 1)).1
    exact ⟨hj.1, by rw [hl2]; omega, fun j hj2 => hj.2 j (by omega)⟩)
  have HP30 := Aside0.mk HON.out.2.2.2
  have HFT := Aside0.mk (show ∀ i : Nat, i < es.length → (es.take (i + 1)).filter isP = (es.take i).filter isP ++ (if ((rd_T56 es (i : Int)).f0 == 1) = true then [rd_T56 es (i : Int)] else []) from fun i hi => by
    rw [List.take_succ_eq_append_getElem hi, List.filter_append, rd56 es i hi]
    congr 1
    cases h : (es[i].f0 == 1) <;> simp [List.filter_cons, isP, h])
  clear HEV HES HON
  go_enter Try.func13, Try.ntmps13
  go_upto_region 4 with (first | (go_at_call 27; refine HDR.out.mono ?_; rintro e w1 ⟨Al, cl, v2, rfl, ho1, ho2, hb⟩; obtain ⟨Ae, ce, rfl⟩ := Kd.R_slice ho2; have RL := Aside0.mk ho1; have RE := Aside0.mk ho2; have B1 := Aside0.mk hb; clear ho1 ho2 hb) | ((with_reducible refine gate_dst (N := 3) rfl ?_); refine box_event ?hg (N := 3) ?hd (cs := #[.int .i64 0, .slice none 0 0]) (t := 30) ?hr ?_; (case hd => rfl); (case hg => rfl); (case hr => first | (go_simp; done) | (go_simp; rfl)); intro gl el wl kl bl; have EL := Aside0.mk el; have KL := Aside0.mk kl; have BL := Aside0.mk bl; clear el kl bl; have kl0 : wl.cell? ⟨gl, 0, none⟩ = some (.int .i64 0) := (blk_cell KL.out 0).trans rfl; have zkl0 := blk_frozen KL.out 0; have kl1 : wl.cell? ⟨gl, 1, none⟩ = some (.slice none 0 0) := (blk_cell KL.out 1).trans rfl; have zkl1 := blk_frozen KL.out 1))
  have FX := Aside0.mk (show Below w1.heap.size w1 ((wl.setCell ⟨gl, 0, none⟩ (.int .i64 n)).setCell ⟨gl, 1, none⟩ (.slice Al l.length cl)) ∧ ((wl.setCell ⟨gl, 0, none⟩ (.int .i64 n)).setCell ⟨gl, 1, none⟩ (.slice Al l.length cl)).heap[gl]? = some (.cells #[.int .i64 n, .slice Al l.length cl] 30 (0, 0)) from ⟨below_set (j := 1) (below_set (j := 0) BL.out (Nat.le_of_eq EL.out.symm)) (Nat.le_of_eq EL.out.symm), blk_put (blk_put KL.out 0 (.int .i64 n) rfl) 1 (.slice Al l.length cl) rfl⟩)
  clear kl0 zkl0 kl1 zkl1 KL BL EL
  generalize ((wl.setCell ⟨gl, 0, none⟩ (.int .i64 n)).setCell ⟨gl, 1, none⟩ (.slice Al l.length cl)) = w2 at FX ⊢
  have RL := Aside0.mk (Kd.R_below RL.out FX.out.1)
  have RE := Aside0.mk (Kd.R_below RE.out FX.out.1)
  have B1 := Aside0.mk (below_step B1.out FX.out.1)
  have KL := Aside0.mk FX.out.2
  clear FX HDR
  go_wp2_with fail
  go_loopg [5, 24] es.length (fun kq v5 v24 w' => ∃ i : Nat, v24 = .int .i64 i ∧ Aside0 (i + kq = es.length) ∧ Aside0 (Kd.R k56 56 w' w2.heap.size (fun _ => True) v5 ((es.take i).filter isP)) ∧ Aside0 (Below w2.heap.size w2 w'))
  case atStart => exact ⟨0, rfl, ⟨by omega⟩, ⟨Kd.R_nil _ _ _ _ _⟩, ⟨Below.refl _ _⟩⟩
  case round =>
    obtain ⟨i, rfl, HI, HO, HB⟩ := hrel
    by_cases hlt : i < es.length
    · cases gk with
      | zero => exact absurd HI.out (by omega)
      | succ go1 =>
      have hlt' : decide ((i : Int) < (es.length : Int)) = true := decide_eq_true (by omega)
      have q0 : (0 : Int) ≤ (i : Int) := by omega
      have q1 : (i : Int) < (es.length : Int) := by omega
      obtain ⟨ad, e, x0, x1, x2⟩ := at_T56 (Kd.R_reads' RE.out).2.2 (i : Int) q0 q1
      cases e
      rw [Int.toNat_natCast] at x0 x1 x2
      have hft := HFT.out i hlt
      generalize rd_T56 es (i : Int) = x at x0 x1 x2 hft
      have FT := Aside0.mk hft
      have LO := Aside0.mk (show ((es.take i).filter isP).length ≤ 30 from by have h1 := List.length_filter_le isP (es.take i); have h2 := List.length_take_le i es; have := HLEN.out; omega)
      replace x0 := pw_cell_below HB.out x0
      replace x1 := pw_cell_below HB.out x1
      replace x2 := pw_cell_below HB.out x2
      have W1 := Aside0.mk (show wrap64 ((i : Int) + 1) = ((i + 1 : Nat) : Int) from (wrap_id (by omega) (by have := HLEN.out; omega)).trans (by omega))
      clear hft
      go_upto_region 8 with ((with_reducible refine gate_dst (N := 7) rfl ?_); refine box_event ?hg (N := 7) ?hd (cs := #[.int .i64 0, .int .i64 0, .int .i64 0]) (t := 56) ?hr ?_; (case hd => rfl); (case hg => rfl); (case hr => first | (go_simp; done) | (go_simp; rfl)); intro gx ex wx kx bx; have EX := Aside0.mk ex; have KX := Aside0.mk kx; have BX := Aside0.mk bx; clear ex kx bx; have kx0 : wx.cell? ⟨gx, 0, none⟩ = some (.int .i64 0) := (blk_cell KX.out 0).trans rfl; have zkx0 := blk_frozen KX.out 0; have kx1 : wx.cell? ⟨gx, 1, none⟩ = some (.int .i64 0) := (blk_cell KX.out 1).trans rfl; have zkx1 := blk_frozen KX.out 1; have kx2 : wx.cell? ⟨gx, 2, none⟩ = some (.int .i64 0) := (blk_cell KX.out 2).trans rfl; have zkx2 := blk_frozen KX.out 2)
      have FX := Aside0.mk (show Below wr.heap.size wr (((wx.setCell ⟨gx, 0, none⟩ (.int .i64 x.f0)).setCell ⟨gx, 1, none⟩ (.int .i64 x.f1)).setCell ⟨gx, 2, none⟩ (.int .i64 x.f2)) ∧ (((wx.setCell ⟨gx, 0, none⟩ (.int .i64 x.f0)).setCell ⟨gx, 1, none⟩ (.int .i64 x.f1)).setCell ⟨gx, 2, none⟩ (.int .i64 x.f2)).heap[gx]? = some (.cells #[.int .i64 x.f0, .int .i64 x.f1, .int .i64 x.f2] 56 (0, 0)) from ⟨below_set (j := 2) (below_set (j := 1) (below_set (j := 0) BX.out (Nat.le_of_eq EX.out.symm)) (Nat.le_of_eq EX.out.symm)) (Nat.le_of_eq EX.out.symm), blk_put (blk_put (blk_put KX.out 0 (.int .i64 x.f0) rfl) 1 (.int .i64 x.f1) rfl) 2 (.int .i64 x.f2) rfl⟩)
      clear kx0 zkx0 kx1 zkx1 kx2 zkx2 KX BX EX x0 x1 x2
      generalize (((wx.setCell ⟨gx, 0, none⟩ (.int .i64 x.f0)).setCell ⟨gx, 1, none⟩ (.int .i64 x.f1)).setCell ⟨gx, 2, none⟩ (.int .i64 x.f2)) = w3 at FX ⊢
      have kx0 : w3.cell? ⟨gx, 0, none⟩ = some (.int .i64 x.f0) := (blk_cell FX.out.2 0).trans rfl
      have kx1 : w3.cell? ⟨gx, 1, none⟩ = some (.int .i64 x.f1) := (blk_cell FX.out.2 1).trans rfl
      have kx2 : w3.cell? ⟨gx, 2, none⟩ = some (.int .i64 x.f2) := (blk_cell FX.out.2 2).trans rfl
      have HO := Aside0.mk (Kd.R_below HO.out FX.out.1)
      have HB := Aside0.mk (below_step HB.out FX.out.1)
      clear FX
      cases h1 : (x.f0 == 1) with
      | false =>
        have FT2 := Aside0.mk (show (es.take (i + 1)).filter isP = (es.take i).filter isP by rw [FT.out, h1]; simp)
        go_wp2_with fail
        go_roundg go1
        case measure => omega
        case rel => exact ⟨i + 1, congrArg (Value.int .i64) W1.out, ⟨by have := HI.out; omega⟩, ⟨by rw [FT2.out]; exact HO.out⟩, HB⟩
      | true =>
        have FT2 := Aside0.mk (show (es.take (i + 1)).filter isP = (es.take i).filter isP ++ [x] by rw [FT.out, h1]; simp)
        go_wp2_with (at_builtin; refine Kd.R_append k56 (w0 := w2) w2.heap.size rfl (.tmp 31) (.tmp 33) 35 56 (.agg #[.int .i64 0, .int .i64 0, .int .i64 0]) 24 rfl Try.underlying35 info56 rfl (by decide) (by decide) u5 ((es.take i).filter isP) x [.int .i64 x.f0, .int .i64 x.f1, .int .i64 x.f2] (fun _ => True) (fun _ => False) rfl rfl (k56_mkM _ _ _ x) (fun k hk => hk.elim) (fun _ _ => trivial) HO.out HB.out HB.out.size (by have := LO.out; omega) ?_; intro vn wn hsn hbn hgn _; have HN2 := Aside0.mk hsn; have HBN := Aside0.mk hbn; clear hsn hbn hgn)
        go_roundg go1
        case measure => omega
        case rel => exact ⟨i + 1, congrArg (Value.int .i64) W1.out, ⟨by have := HI.out; omega⟩, ⟨by rw [FT2.out]; exact HN2.out⟩, HBN⟩
    · have hlt' : decide ((i : Int) < (es.length : Int)) = false := decide_eq_false (by omega)
      have RP := Aside0.mk (show Kd.R k56 56 wr w2.heap.size (fun _ => True) u5 ps by have h := HO.out; rw [List.take_of_length_le (by omega), HPS.out] at h; exact h)
      obtain ⟨Ap, cp, e⟩ := Kd.R_slice RP.out
      subst e
      have RL := Aside0.mk (Kd.R_below RL.out HB.out)
      have B1 := Aside0.mk (below_step B1.out HB.out)
      have KL := Aside0.mk (blk_below KL.out HB.out)
      clear HO HB RE HPS HFT HLEN
      have kl0 : wr.cell? ⟨gl, 0, none⟩ = some (.int .i64 n) := (blk_cell KL.out 0).trans rfl; have kl1 : wr.cell? ⟨gl, 1, none⟩ = some (.slice Al l.length cl) := (blk_cell KL.out 1).trans rfl
      go_upto_region 12 with (go_at_call 54; refine (truth_is (Kd.R_reads' RL.out).2.2 (Kd.R_reads' RL.out).2.1 (Kd.R_reads' RP.out).2.2 (Kd.R_reads' RP.out).2.1).mono ?_; rintro e w4 ⟨v5, rfl, hs, hb⟩; obtain ⟨A4, c4, rfl⟩ := Kd.S_slice hs; have RS := Aside0.mk (Kd.S_reads' hs).2.2; have RL := Aside0.mk (Kd.R_below RL.out hb); have RP := Aside0.mk (Kd.R_below RP.out hb); have B1 := Aside0.mk (below_step B1.out hb); have KL := Aside0.mk (blk_below KL.out hb); clear hs hb kl0 kl1; have kl0 : w4.cell? ⟨gl, 0, none⟩ = some (.int .i64 n) := (blk_cell KL.out 0).trans rfl; have kl1 : w4.cell? ⟨gl, 1, none⟩ = some (.slice Al l.length cl) := (blk_cell KL.out 1).trans rfl)
      have hne0 : (((truth n l ps).length : Int) != (ps.length : Int)) = false := by rw [HD.out.1, HRL.out]; exact bne_self_eq_false _
      have hne : (((run n l ps).length : Int) != (ps.length : Int)) = false := by rw [HRL.out]; exact bne_self_eq_false _
      go_upto_region 13 with (go_at_call 29; refine (run_is n _ _ l _ _ ps _ (Kd.R_reads' RL.out).2.2 (Kd.R_reads' RL.out).2.1 (Kd.R_reads' RP.out).2.2 (Kd.R_reads' RP.out).2.1).mono ?_; rintro e w6 ⟨v6, rfl, hs, hb⟩; obtain ⟨A6, c6, rfl⟩ := Kd.S_slice hs; have RR := Aside0.mk (Kd.S_reads' hs).2.2; have RS := Aside0.mk (Kd.C_below RS.out hb); have RL := Aside0.mk (Kd.R_below RL.out hb); have RP := Aside0.mk (Kd.R_below RP.out hb); have B1 := Aside0.mk (below_step B1.out hb); have KL := Aside0.mk (blk_below KL.out hb); clear hs hb kl0 kl1; have kl0 : w6.cell? ⟨gl, 0, none⟩ = some (.int .i64 n) := (blk_cell KL.out 0).trans rfl; have kl1 : w6.cell? ⟨gl, 1, none⟩ = some (.slice Al l.length cl) := (blk_cell KL.out 1).trans rfl)
      go_upto_region 16 with (go_at_call 58; refine (struth_is (Kd.R_reads' RL.out).2.2 (Kd.R_reads' RL.out).2.1 (Kd.R_reads' RP.out).2.2 (Kd.R_reads' RP.out).2.1).mono ?_; rintro e w7 ⟨v7, rfl, hs, hb⟩; obtain ⟨A7, c7, rfl⟩ := Kd.S_slice hs; have RT := Aside0.mk (Kd.S_reads' hs).2.2; have RS := Aside0.mk (Kd.C_below RS.out hb); have RR := Aside0.mk (Kd.C_below RR.out hb); have RL := Aside0.mk (Kd.R_below RL.out hb); have RP := Aside0.mk (Kd.R_below RP.out hb); have B1 := Aside0.mk (below_step B1.out hb); have KL := Aside0.mk (blk_below KL.out hb); clear hs hb kl0 kl1)
      clear HRL RL RP hne hne0
      generalize truth n l ps = tr at *
      generalize run n l ps = rs at *
      go_wp2_with fail
      go_loopg [59] rs.length (fun kq v59 w' => ∃ i : Nat, v59 = .int .i64 i ∧ Aside0 (i + kq = rs.length) ∧ Aside0 (Below w7.heap.size w7 w'))
      case atStart => exact ⟨0, rfl, ⟨by omega⟩, ⟨Below.refl _ _⟩⟩
      case round =>
        obtain ⟨i, rfl, HI, HB⟩ := hrel
        by_cases hlt : i < rs.length
        · cases gk with
          | zero => exact absurd HI.out (by omega)
          | succ go1 =>
          have hlt' : decide ((i : Int) < (rs.length : Int)) = true := decide_eq_true (by omega)
          have q0 : (0 : Int) ≤ (i : Int) := by omega
          have q1 : (i : Int) < (rs.length : Int) := by omega
          have q2 : (i : Int) < (tr.length : Int) := by have := HD.out.1; omega
          have I60 := Aside0.mk (show i < 2000 by have := HD.out.2.1; omega)
          obtain ⟨ad, A2, c2, A3, c3, e, x0, x1, x2, x3, l2, g2, l3, g3⟩ := at_T48 RR.out (i : Int) q0 q1
          cases e
          obtain ⟨adt, At, ct, e, yt, lt, gt⟩ := at_L12 RT.out (i : Int) q0 q2
          cases e
          obtain ⟨ads, As, cs, e, ys, ls, gs⟩ := at_L12 RS.out (i : Int) q0 q2
          cases e
          rw [Int.toNat_natCast] at x0 x1 x2 x3 yt ys
          have hd := HD.out.2.2 i hlt
          have hsf := HSN.out i hlt
          generalize rd_T48 rs (i : Int) = x at x0 x1 x2 x3 l2 g2 l3 g3 hd hsf
          obtain ⟨xc, xb, ss, dd⟩ := x
          dsimp only at x0 x1 x2 x3 l2 g2 l3 g3 hd hsf
          generalize rd_L12 tr (i : Int) = t at yt lt gt ys ls gs hd hsf
          have GT := Aside0.mk gt
          have GS := Aside0.mk gs
          have G2 := Aside0.mk g2
          have DL := Aside0.mk hd
          have SF := Aside0.mk hsf.2.2
          obtain rfl : xc = 0 := hsf.1
          have hne2 : ((ss.length : Int) != n) = false := bne_eq_false_iff_eq.mpr hsf.2.1
          have hne3 : ((t.length : Int) != n) = false := bne_eq_false_iff_eq.mpr (by rw [hd.1]; exact hsf.2.1)
          have YT := Aside0.mk yt
          have YS := Aside0.mk ys
          have X2 := Aside0.mk x2
          replace x0 := pw_cell_below HB.out x0
          replace x2 := pw_cell_below HB.out x2
          replace ys := pw_cell_below HB.out ys
          have kl0 : wr.cell? ⟨gl, 0, none⟩ = some (.int .i64 n) := (blk_cell (blk_below KL.out HB.out) 0).trans rfl
          clear gt gs g2 g3 hd yt l2 l3 lt ls hsf x1 x3
          go_upto_region 19 with fail
          go_quiet (fail)
          have HB := Aside0.mk (pw_below_drewN HB.out nq)
          clear x0 x2 ys kl0
          generalize wr.drewN nq = wz at HB ⊢
          have x2 := pw_cell_below HB.out X2.out
          go_wp2_with fail
          clear x2
          go_loopg [97] ss.length (fun kq v97 w' => ∃ j : Nat, v97 = .int .i64 j ∧ Aside0 (j + kq = ss.length) ∧ Aside0 (Below w7.heap.size w7 w'))
          case atStart => exact ⟨0, rfl, ⟨by omega⟩, HB⟩
          case round =>
            clear HB
            obtain ⟨j, rfl, HJ, HB⟩ := hrel
            by_cases hjt : j < ss.length
            · cases gk with
              | zero => exact absurd HJ.out (by omega)
              | succ go2 =>
              have hjt' : decide ((j : Int) < (ss.length : Int)) = true := decide_eq_true (by omega)
              have r0 : (0 : Int) ≤ (j : Int) := by omega
              have r1 : (j : Int) < (ss.length : Int) := by omega
              have r2 : (j : Int) < (t.length : Int) := by have := DL.out.1; omega
              obtain ⟨adx, e, x0, x1, x2, x3, x4⟩ := at_T50 G2.out (j : Int) r0 r1
              cases e
              obtain ⟨ada, e, -⟩ := GT.out.2.2 (by omega)
              subst e
              obtain ⟨adb, e, -⟩ := GS.out.2.2 (by omega)
              subst e
              have yv := Kd.foot_int GT.out (j : Int) r0 r2
              have zv := Kd.foot_int GS.out (j : Int) r0 r2
              rw [Int.toNat_natCast] at x0 x1 x2 x3 x4 yv zv
              have N1 := SF.out j hjt
              generalize rd_T50 ss (j : Int) = s at x0 x1 x2 x3 x4 N1
              generalize rd t (j : Int) = tv at yv zv N1
              obtain ⟨sa, sb, sc, sd, se⟩ := s
              dsimp only at x0 x1 x2 x3 x4 N1
              obtain ⟨rfl, n2, n3⟩ := N1
              have N3 := Aside0.mk n3
              have N2 := Aside0.mk n2
              clear n2 n3
              replace x0 := pw_cell_below HB.out x0
              replace x1 := pw_cell_below HB.out x1
              replace x2 := pw_cell_below HB.out x2
              replace x3 := pw_cell_below HB.out x3
              replace x4 := pw_cell_below HB.out x4
              go_upto_region 24 with ((with_reducible refine gate_dst (N := 13) rfl ?_); refine box_event ?hg (N := 13) ?hd (cs := #[.int .i64 0, .int .i64 0, .bool false, .bool false, .int .i64 0]) (t := 50) ?hr ?_; (case hd => rfl); (case hg => rfl); (case hr => first | (go_simp; done) | (go_simp; rfl)); intro gs es ws ks bs; have ES := Aside0.mk es; have KS := Aside0.mk ks; have BS := Aside0.mk bs; clear es ks bs; have ks0 : ws.cell? ⟨gs, 0, none⟩ = some (.int .i64 0) := (blk_cell KS.out 0).trans rfl; have zks0 := blk_frozen KS.out 0; have ks1 : ws.cell? ⟨gs, 1, none⟩ = some (.int .i64 0) := (blk_cell KS.out 1).trans rfl; have zks1 := blk_frozen KS.out 1; have ks2 : ws.cell? ⟨gs, 2, none⟩ = some (.bool false) := (blk_cell KS.out 2).trans rfl; have zks2 := blk_frozen KS.out 2; have ks3 : ws.cell? ⟨gs, 3, none⟩ = some (.bool false) := (blk_cell KS.out 3).trans rfl; have zks3 := blk_frozen KS.out 3; have ks4 : ws.cell? ⟨gs, 4, none⟩ = some (.int .i64 0) := (blk_cell KS.out 4).trans rfl; have zks4 := blk_frozen KS.out 4)
              have FS := Aside0.mk (fill5 (y0 := .int .i64 sa) (y1 := .int .i64 sb) (y2 := .bool sc) (y3 := .bool sd) (y4 := .int .i64 se) KS.out BS.out (Nat.le_of_eq ES.out.symm))
              clear ks0 zks0 ks1 zks1 ks2 zks2 ks3 zks3 ks4 zks4 KS BS ES x0 x1 x2 x3 x4
              generalize (((((ws.setCell ⟨gs, 0, none⟩ (.int .i64 sa)).setCell ⟨gs, 1, none⟩ (.int .i64 sb)).setCell ⟨gs, 2, none⟩ (.bool sc)).setCell ⟨gs, 3, none⟩ (.bool sd)).setCell ⟨gs, 4, none⟩ (.int .i64 se)) = w8 at FS ⊢
              have ks0 : w8.cell? ⟨gs, 0, none⟩ = some (.int .i64 sa) := (blk_cell FS.out.2 0).trans rfl
              have ks1 : w8.cell? ⟨gs, 1, none⟩ = some (.int .i64 sb) := (blk_cell FS.out.2 1).trans rfl
              have HB := Aside0.mk (below_step HB.out FS.out.1)
              clear FS
              have yt := pw_cell_below HB.out YT.out
              have ys := pw_cell_below HB.out YS.out
              replace yv := pw_cell_below HB.out yv
              replace zv := pw_cell_below HB.out zv
              have W2 := Aside0.mk (show wrap64 ((j : Int) + 1) = ((j + 1 : Nat) : Int) from (wrap_id (by omega) (by have := DL.out.2; omega)).trans (by omega))
              have hss : (sb != sb) = false := bne_self_eq_false _
              have h1 : decide (1 < sa) = false := decide_eq_false (by have := N3.out; omega)
              obtain ⟨b, hb⟩ : ∃ b, (sb == 0) = b := ⟨_, rfl⟩
              have hb2 : (sa == 0) = b := by rw [N2.out, hb]
              have hbb : (b != b) = false := bne_self_eq_false _
              go_quiet (fail)
              have HB := Aside0.mk (pw_below_drewN HB.out nq)
              clear ks0 ks1 yt ys yv zv
              generalize w8.drewN nq = w9 at HB ⊢
              go_wp2_with fail
              go_roundg go2
              case measure => omega
              case rel => exact ⟨j + 1, congrArg (Value.int .i64) W2.out, ⟨by have := HJ.out; omega⟩, HB⟩
            · have hjt' : decide ((j : Int) < (ss.length : Int)) = false := decide_eq_false (by omega)
              have W1 := Aside0.mk (show wrap64 ((i : Int) + 1) = ((i + 1 : Nat) : Int) from (wrap_id (by omega) (by have := I60.out; omega)).trans (by omega))
              go_wp2_with fail
              go_roundg go1
              case measure => omega
              case rel => exact ⟨i + 1, congrArg (Value.int .i64) W1.out, ⟨by have := HI.out; omega⟩, HB⟩
        · have hlt' : decide ((i : Int) < (rs.length : Int)) = false := decide_eq_false (by omega)
          go_wp2_with fail
          go_ret
          exact ⟨rfl, below_step B1.out HB.out⟩
end Go.Proofs.Ytpdnabhpkdchjaa.WalkFnJust
namespace Go.Proofs.Ytpdnabhpkdchjaa.fnJust
open Go.ChangeShapes Go.WideShapes Go.ChangeAt Go.RowKit Go.Proofs.Ytpdnabhpkdchjaa.Open Go.Proofs.Ytpdnabhpkdchjaa.P
set_option linter.unusedVariables false
set_option maxRecDepth 100000 in
theorem lifted (os : Os) (started : os.Started) (H : Type) (enc : TypeId × Value → H) :
    ReturnsInHanded {} Try.checked os 13 .any (Rows.fnJustSpec.pre6 enc Try.prog Try.f13 Rows.fnJustRow.domain false) (Rows.fnJustSpec.post enc Try.prog Try.f13 false true false false) := by
  refine returnsInHanded_of_change_sized (C := Try.checked) Facts.own started (by kernel_rfl) Try.func13
    (ChangeSpec.witness6 (enc := enc) (C := Try.checked) false ⟨#[], #[.slice none 0 0], []⟩ 8 (by kernel_rfl) (by kernel_rfl) (by kernel_rfl) (by kernel_rfl)) ?_
  intro W base args ds gs before hval0 hW hcnd hsz0 _
  have hval : ∀ (j : Nat) t v, Try.f13.params[j]? = some t → args[j]? = some v → Value.okWide Try.prog W .any base t v := hval0
  have hW' := hW
  obtain ⟨p, q, hA0, hV, rfl, hfz, hnd⟩ := hW
  have hA : DataW.TrodAll enc Try.prog W 0 (fun _ => true) true Try.f13.params.toList args.toList ds p := hA0
  rw [Try.params13] at hA hval
  obtain ⟨v0, vs0, d0, ds0, p0, q0, hargs, rfl, rfl, h0, r0⟩ := trodAll_cons hA
  obtain ⟨rfl, rfl, rfl⟩ := trodAll_nil r0
  obtain rfl : args = #[v0] := by cases args; simp_all
  obtain ⟨rfl, rfl⟩ := trodVars_none hV
  have k0 := h0
  have lt0 : ∀ x ∈ p0, x.block < W.heap.size := by obtain ⟨m, hm⟩ := k0; exact DataW.trod_lt m _ _ _ hm
  obtain ⟨A0, c0, l0, rfl, hr0, hc0, hb0⟩ := arg_bytes (hval 0 34 v0 rfl rfl) h0
  clear hA0 hval0 hsz0
  refine (WalkFnJust.walk A0 c0 l0 W hr0 hc0 hb0).mono fun e W' ⟨he, bel⟩ => ?_
  subst he
  exact ⟨_, rfl, _, _, _, [], _, [], hW', trodAll_mk1 (shut_bool Try.underlying4 _), (trodAll_cons_mk (Below.trod Facts.laidOut (by kernel_rfl) (of_decide_eq_true (by kernel_rfl)) k0 bel lt0) trodAll_mk0), rfl, bel.frame _, fun h => by cases h⟩
theorem k10 : (Rows.fnJustRow.inPlace == Try.prog.inPlace 13) = true := by kernel_rfl
theorem k11 : (Rows.fnJustRow.unfollowed == Try.prog.unfollowed 13) = true := by kernel_rfl
theorem k12 : (Rows.fnJustRow.recurses == Try.prog.recurses 13) = true := by kernel_rfl
theorem k13 : (Rows.fnJustRow.named == Try.prog.varsNamed 13) = true := by kernel_rfl
theorem over : Rows.fnJustRow.holds Try.pinned (OpenSpec.ofChange Rows.fnJustSpec) :=
  OpenClaim.holds_of_wide 13 Try.f13 rfl rfl rfl rfl rfl rfl rfl ⟨rfl, rfl, rfl, rfl, rfl⟩ rfl rfl rfl rfl rfl (by kernel_rfl) Try.func13
    (joined_of 13 Try.f13 Rows.fnJustSpec Rows.fnJustRow (by kernel_rfl) (by kernel_rfl) (by kernel_rfl) rfl rfl Facts.stopKnobs k10 k11 k12 k13 (by kernel_rfl) (by kernel_rfl) (by kernel_rfl) (by kernel_rfl) (by kernel_rfl) (by kernel_rfl) (by kernel_rfl) (by kernel_rfl) (by kernel_rfl) rfl rfl rfl rfl rfl rfl (by kernel_rfl) (by kernel_rfl) (by kernel_rfl))
    (of_decide_eq_true (by kernel_rfl)) (by unfold Func.isWrapper; rw [if_neg (by decide +kernel)]; exact ⟨rfl, rfl⟩)
    (fun os started H enc _ => lifted os started H enc)
theorem proved : Rows.FnJustSaid := over
end Go.Proofs.Ytpdnabhpkdchjaa.fnJust
namespace Go.Proofs.Ytpdnabhpkdchjaa
theorem fnJust_holds : Rows.FnJustSaid := fnJust.proved
#print axioms fnJust_holds
end Go.Proofs.Ytpdnabhpkdchjaa
