/- The statement FnTrain holds of the given program, for every argument; there are no conditions. (Part 4 of 5.) -/
import Derived.Test.YtpdnabhpkdchjaaBFnTrain3
import Derived.Deep.DrawnRows
import Derived.Shelf.SlSortCmp.NoneTotal
import Derived.Deep.RegionWith
namespace Go.Proofs.Ytpdnabhpkdchjaa.P
open Go.RowKit Go.Proofs.YtpdnabhpkdchjaaW.PrintWords Go.Proofs.YtpdnabhpkdchjaaW.PrintLast Go.Proofs.YtpdnabhpkdchjaaW.PrintMore
set_option linter.unusedVariables false
def runStep (n : Int) (l : List S88) (s : S46) (e : S56) : S48 :=
  if eventOk n l e.f0 e.f1 e.f2 = true then ⟨doCode l s.f1 s.f2 e.f0 e.f1, ⟨true, doSecs l s.f1 s.f2 e.f0 e.f1 e.f2, doDead l s.f1 s.f2 e.f0 e.f1⟩⟩ else ⟨1, ⟨true, s.f1, s.f2⟩⟩
def st0 (n : Int) (l : List S88) : S46 := ⟨true, List.replicate n.toNat z50, List.replicate l.length false⟩
def stAt (n : Int) (l : List S88) (es : List S56) (k : Nat) : S46 := (es.take k).foldl (fun s e => (runStep n l s e).f1) (st0 n l)
def runTo (n : Int) (l : List S88) (es : List S56) (k : Nat) : List S48 := (List.range k).map fun j => runStep n l (stAt n l es j) (rd_T56 es (j : Int))
def run (n : Int) (l : List S88) (es : List S56) : List S48 := if layoutOk n l = 0 ∧ es.length ≤ 2000 then runTo n l es es.length else []
theorem runTo_length (n : Int) (l : List S88) (es : List S56) (k : Nat) : (runTo n l es k).length = k := by simp [runTo]
theorem runTo_succ (n : Int) (l : List S88) (es : List S56) (k : Nat) : runTo n l es (k + 1) = runTo n l es k ++ [runStep n l (stAt n l es k) (rd_T56 es (k : Int))] := by
  simp [runTo, List.range_succ]
theorem stAt_succ (n : Int) (l : List S88) (es : List S56) (k : Nat) (h : k < es.length) : stAt n l es (k + 1) = (runStep n l (stAt n l es k) (rd_T56 es (k : Int))).f1 := by
  rw [stAt, List.take_succ_eq_append_getElem h, List.foldl_append, rd56 es k h]
  rfl
theorem stAt_zero (n : Int) (l : List S88) (es : List S56) : stAt n l es 0 = st0 n l := by simp [stAt]
theorem runStep_len (n : Int) (l : List S88) (s : S46) (e : S56) : (runStep n l s e).f1.f1.length = s.f1.length ∧ (runStep n l s e).f1.f2.length = s.f2.length ∧ (runStep n l s e).f1.f0 = true := by
  unfold runStep
  split
  · exact ⟨doSecs_length _ _ _ _ _ _, doDead_length _ _ _ _ _, rfl⟩
  · exact ⟨rfl, rfl, rfl⟩
theorem stAt_len (n : Int) (l : List S88) (es : List S56) (k : Nat) : (stAt n l es k).f1.length = n.toNat ∧ (stAt n l es k).f2.length = l.length ∧ (stAt n l es k).f0 = true := by
  unfold stAt
  have h : ∀ (es : List S56) (s : S46), s.f1.length = n.toNat ∧ s.f2.length = l.length ∧ s.f0 = true → (es.foldl (fun s e => (runStep n l s e).f1) s).f1.length = n.toNat ∧ (es.foldl (fun s e => (runStep n l s e).f1) s).f2.length = l.length ∧ (es.foldl (fun s e => (runStep n l s e).f1) s).f0 = true := by
    intro es
    induction es with
    | nil => intro s h; exact h
    | cons e es ih =>
      intro s h
      have := runStep_len n l s e
      exact ih _ ⟨by rw [this.1]; exact h.1, by rw [this.2.1]; exact h.2.1, this.2.2⟩
  exact h _ _ ⟨by simp [st0], by simp [st0], rfl⟩
def secFine (l : List S88) (dd : List Bool) (s : Int) (x : S50) : Bool := secRange x && secRest (deadAt l dd s) x
theorem fine_iff (l : List S88) (dd : List Bool) (s : Int) (x : S50) : secFine l dd s x = true ↔ (-1000000 ≤ x.f1 ∧ x.f1 ≤ 1000000 ∧ -1 ≤ x.f4 ∧ x.f4 ≤ 1) ∧ ((x.f1 < 0 ∨ deadAt l dd s = true) → x.f2 = true) ∧ (x.f3 = true ∧ x.f1 = 0 ∧ x.f4 = -1 → x.f2 = true) := by
  simp only [secFine, secRange, secRest, Bool.and_eq_true, decide_eq_true_eq, Bool.not_eq_true', Bool.and_eq_false_iff, Bool.or_eq_false_iff, Bool.not_eq_false', decide_eq_false_iff_not]
  cases x.f2 <;> cases x.f3 <;> cases deadAt l dd s <;> simp <;> omega
theorem ok_iff (l : List S88) (dd : List Bool) (s : Int) (x : S50) : secOk l dd s x = true ↔ x.f0 = toldC l dd s x ∧ secFine l dd s x = true := by
  simp only [secOk, secFine, Bool.and_eq_true, decide_eq_true_eq]
  exact ⟨fun h => ⟨h.1.2, h.1.1, h.2⟩, fun h => ⟨⟨h.2.1, h.1⟩, h.2.2⟩⟩
theorem tell_ok {l : List S88} {dd : List Bool} {i : Nat} {x : S50} (h : secFine l dd (i : Int) x = true) : secOk l dd (i : Int) (tellS l dd i x) = true := by
  rw [ok_iff]
  exact ⟨rfl, h⟩
theorem retold_get (l : List S88) (dd : List Bool) (ss : List S50) (i : Nat) (h : i < ss.length) : rd_T50 (retold l dd ss) (i : Int) = tellS l dd i (rd_T50 ss (i : Int)) := by
  simp [rd_T50, retold, retoldTo, h]
theorem retold_fine {l : List S88} {dd : List Bool} {ss : List S50} (h : ∀ j, j < ss.length → secFine l dd (j : Int) (rd_T50 ss (j : Int)) = true) : ∀ j, j < (retold l dd ss).length → secOk l dd (j : Int) (rd_T50 (retold l dd ss) (j : Int)) = true := by
  intro j hj
  rw [retold_length] at hj
  rw [retold_get l dd ss j hj]
  exact tell_ok (h j hj)
theorem count_fine {l : List S88} {dd : List Bool} {s : Int} {x : S50} {b : Int} (hb : b = 1 ∨ b = -1) (h : secFine l dd s x = true) : secFine l dd s (countS x b) = true := by
  rw [fine_iff] at h ⊢
  obtain ⟨⟨h1, h2, h3, h4⟩, h5, h6⟩ := h
  have hc : -1000000 ≤ cntN x b ∧ cntN x b ≤ 1000000 := by
    unfold cntN
    split
    · rename_i h; exact h
    · exact ⟨h1, h2⟩
  simp only [countS]
  refine ⟨⟨hc.1, hc.2, by omega, by omega⟩, fun h => ?_, fun h => ?_⟩
  · rcases h with h | h
    · rw [decide_eq_true h, Bool.or_true]
    · rw [h5 (.inr h), Bool.true_or]
  · obtain ⟨k1, k2, k3⟩ := h
    rw [k2, k3] at k1
    simp at k1
theorem addS_get (ss : List S50) (s b : Int) (j : Nat) (hj : j < ss.length) : rd_T50 (addS ss s b) (j : Int) = if s = (j : Int) then countS (rd_T50 ss (j : Int)) b else rd_T50 ss (j : Int) := by
  unfold addS
  by_cases h : s < 0
  · rw [if_pos h, if_neg (by omega)]
  · rw [if_neg h]
    by_cases e : s = (j : Int)
    · subst e
      simp [rd_T50, hj]
    · have : s.toNat ≠ j := by omega
      rw [if_neg e]
      simp [rd_T50, List.getElem?_set_ne this]
theorem loseAt_get (ss : List S50) (s : Int) (j : Nat) (hj : j < ss.length) : rd_T50 (loseAt ss s) (j : Int) = if s = (j : Int) then loseS (rd_T50 ss (j : Int)) else rd_T50 ss (j : Int) := by
  unfold loseAt
  by_cases h : s < 0
  · rw [if_pos h, if_neg (by omega)]
  · rw [if_neg h]
    by_cases e : s = (j : Int)
    · subst e
      simp [rd_T50, hj]
    · have : s.toNat ≠ j := by omega
      rw [if_neg e]
      simp [rd_T50, List.getElem?_set_ne this]
theorem add_fine {l : List S88} {dd : List Bool} {ss : List S50} {s b : Int} (hb : b = 1 ∨ b = -1) (h : ∀ j, j < ss.length → secFine l dd (j : Int) (rd_T50 ss (j : Int)) = true) : ∀ j, j < (addS ss s b).length → secFine l dd (j : Int) (rd_T50 (addS ss s b) (j : Int)) = true := by
  intro j hj
  rw [addS_length] at hj
  rw [addS_get ss s b j hj]
  split
  · exact count_fine hb (h j hj)
  · exact h j hj
theorem deadFrom_mono {l : List S88} {dd dd' : List Bool} {s : Int} (h : ∀ i : Nat, rdOf false dd' (i : Int) = true → hits s (rd_T88 l (i : Int)) = true → rdOf false dd (i : Int) = true) : ∀ d i, deadFrom l dd' s d i = true → deadFrom l dd s d i = true := by
  intro d
  induction d with
  | zero => intro i hd; exact hd
  | succ d ih =>
    intro i hd
    simp only [deadFrom, Bool.or_eq_true, Bool.and_eq_true] at hd ⊢
    rcases hd with ⟨h1, h2⟩ | h1
    · exact .inl ⟨h i h1 h2, h2⟩
    · exact .inr (ih _ h1)
theorem rdOf_set (dd : List Bool) (k i : Nat) (b : Bool) : rdOf false (dd.set k b) (i : Int) = if k = i ∧ i < dd.length then b else rdOf false dd (i : Int) := by
  unfold rdOf
  simp only [Int.toNat_natCast, List.getD_eq_getElem?_getD, List.getElem?_set]
  by_cases e : k = i
  · subst e
    by_cases h : k < dd.length
    · simp [h]
    · simp [h]
  · simp [e]
theorem dead_less {l : List S88} {dd : List Bool} {s : Int} {k : Nat} (h : deadAt l (dd.set k false) s = true) : deadAt l dd s = true := by
  refine deadFrom_mono (fun i h1 _ => ?_) _ _ h
  rw [rdOf_set] at h1
  split at h1
  · cases h1
  · exact h1
theorem dead_more {l : List S88} {dd : List Bool} {s : Int} {k : Nat} (h : deadAt l (dd.set k true) s = true) (hn : hits s (rd_T88 l (k : Int)) = false) : deadAt l dd s = true := by
  refine deadFrom_mono (fun i h1 h2 => ?_) _ _ h
  rw [rdOf_set] at h1
  split at h1
  · rename_i e
    rw [← e.1, hn] at h2
    cases h2
  · exact h1
theorem lose_fine {l : List S88} {dd dd' : List Bool} {s : Int} {x : S50} (h : secFine l dd s x = true) : secFine l dd' s (loseS x) = true := by
  rw [fine_iff] at h ⊢
  exact ⟨h.1, fun _ => rfl, fun _ => rfl⟩
theorem fine_dead {l : List S88} {dd dd' : List Bool} {s : Int} {x : S50} (hd : deadAt l dd' s = true → deadAt l dd s = true) (h : secFine l dd s x = true) : secFine l dd' s x = true := by
  rw [fine_iff] at h ⊢
  exact ⟨h.1, fun k => h.2.1 (k.imp id hd), h.2.2⟩
theorem do_fine {n : Int} {l : List S88} {ss : List S50} {dd : List Bool} {op of dir : Int} (hl : layoutOk n l = 0) (hd : dd.length = l.length) (h : ∀ j, j < ss.length → secFine l dd (j : Int) (rd_T50 ss (j : Int)) = true) (hev : eventOk n l op of dir = true) (hc : doCode l ss dd op of = 0) :
    ∀ j, j < (midSecs l ss op of dir).length → secFine l (midDead dd op of) (j : Int) (rd_T50 (midSecs l ss op of dir) (j : Int)) = true := by
  have key : ((op = 1 ∨ op = 2) ∧ 0 ≤ of ∧ of < (l.length : Int)) ∨ ((op = 3 ∨ op = 4) ∧ 0 ≤ of ∧ of < (l.length : Int)) ∨ (op = 5 ∧ 0 ≤ of ∧ of < n) := by
    unfold eventOk at hev
    rw [if_pos hl] at hev
    split at hev
    · rename_i h1; simp at hev; exact .inl ⟨h1, hev.1.1, hev.1.2⟩
    · split at hev
      · rename_i h1; simp at hev; exact .inr (.inl ⟨h1, hev.1.1, hev.1.2⟩)
      · split at hev
        · rename_i h1; simp at hev; exact .inr (.inr ⟨h1, hev.1.1, hev.1.2⟩)
        · cases hev
  rcases key with ⟨rfl | rfl, o0, o1⟩ | ⟨rfl | rfl, o0, o1⟩ | ⟨rfl, o0, o1⟩
  · have e1 : midSecs l ss 1 of dir = addS (addS ss (if dir = -1 then (rd_T88 l of).f1 else (rd_T88 l of).f0) (-1)) (if dir = -1 then (rd_T88 l of).f0 else (rd_T88 l of).f1) 1 := by simp [midSecs]
    have e2 : midDead dd 1 of = dd := by simp [midDead]
    rw [e1, e2]
    exact add_fine (.inl rfl) (add_fine (.inr rfl) h)
  · have e1 : midSecs l ss 2 of dir = addS ss (if dir = -1 then (rd_T88 l of).f0 else (rd_T88 l of).f1) 1 := by simp [midSecs]
    have e2 : midDead dd 2 of = dd := by simp [midDead]
    rw [e1, e2]
    exact add_fine (.inl rfl) h
  · have e1 : midSecs l ss 3 of dir = loseAt (loseAt ss (rd_T88 l of).f0) (rd_T88 l of).f1 := by simp [midSecs]
    have e2 : midDead dd 3 of = dd.set of.toNat true := by simp [midDead]
    rw [e1, e2]
    intro j hj
    rw [loseAt_length, loseAt_length] at hj
    rw [loseAt_get _ _ _ (by rw [loseAt_length]; exact hj), loseAt_get _ _ _ hj]
    by_cases f1 : (rd_T88 l of).f1 = (j : Int)
    · rw [if_pos f1]
      split
      · exact lose_fine (lose_fine (dd' := dd) (h j hj))
      · exact lose_fine (h j hj)
    · rw [if_neg f1]
      by_cases f0 : (rd_T88 l of).f0 = (j : Int)
      · rw [if_pos f0]; exact lose_fine (h j hj)
      · rw [if_neg f0]
        refine fine_dead (fun hx => dead_more hx ?_) (h j hj)
        rw [show ((of.toNat : Nat) : Int) = of by omega]
        simp [hits, f0, f1]
  · have e1 : midSecs l ss 4 of dir = ss := by simp [midSecs]
    have e2 : midDead dd 4 of = dd.set of.toNat false := by simp [midDead]
    rw [e1, e2]
    intro j hj
    exact fine_dead dead_less (h j hj)
  · have e1 : midSecs l ss 5 of dir = ss.set of.toNat ⟨0, 0, false, true, 0⟩ := by simp [midSecs]
    have e2 : midDead dd 5 of = dd := by simp [midDead]
    rw [e1, e2]
    intro j hj
    rw [List.length_set] at hj
    by_cases e : of.toNat = j
    · have hdd : deadAt l dd of = false := by
        cases hx : deadAt l dd of with
        | false => rfl
        | true =>
          rw [doCode, if_neg (by decide), if_pos rfl, if_pos hx] at hc
          exact absurd hc (by decide)
      have e3 : ((j : Nat) : Int) = of := by omega
      rw [show rd_T50 (ss.set of.toNat ⟨0, 0, false, true, 0⟩) (j : Int) = ⟨0, 0, false, true, 0⟩ by subst e; rw [rd_T50, Int.toNat_natCast]; simp [hj], e3, fine_iff]
      refine ⟨by simp, fun h => ?_, fun h => by simp at h⟩
      rw [hdd] at h
      simp at h
    · rw [show rd_T50 (ss.set of.toNat ⟨0, 0, false, true, 0⟩) (j : Int) = rd_T50 ss (j : Int) by simp [rd_T50, List.getElem?_set_ne e]]
      exact h j hj
theorem do_ok {n : Int} {l : List S88} {ss : List S50} {dd : List Bool} {op of dir : Int} (hl : layoutOk n l = 0) (hd : dd.length = l.length) (h : ∀ j, j < ss.length → secOk l dd (j : Int) (rd_T50 ss (j : Int)) = true) (hev : eventOk n l op of dir = true) :
    ∀ j, j < (doSecs l ss dd op of dir).length → secOk l (doDead l ss dd op of) (j : Int) (rd_T50 (doSecs l ss dd op of dir) (j : Int)) = true := by
  by_cases hc : doCode l ss dd op of = 0
  · unfold doSecs doDead
    rw [if_pos hc, if_pos hc]
    exact retold_fine (do_fine hl hd (fun j hj => ((ok_iff _ _ _ _).1 (h j hj)).2) hev hc)
  · unfold doSecs doDead
    rw [if_neg hc, if_neg hc]
    exact h
theorem step_ok {n : Int} {l : List S88} {s : S46} {e : S56} (h : stateOk n l s.f0 s.f1 s.f2 = true) : stateOk n l (runStep n l s e).f1.f0 (runStep n l s e).f1.f1 (runStep n l s e).f1.f2 = true := by
  obtain ⟨hl, ho, hn, hd, hsec⟩ := stateOk_of h
  unfold runStep
  split
  · rename_i hev
    exact stateOk_mk hl rfl (by rw [doSecs_length]; exact hn) (by rw [doDead_length]; exact hd) (do_ok hl hd hsec hev)
  · exact stateOk_mk hl rfl hn hd hsec
theorem anyFalse (l : List S88) (m : Nat) (s : Int) : deadAt l (List.replicate m false) s = false := by
  have h : ∀ d i, deadFrom l (List.replicate m false) s d i = false := by
    intro d
    induction d with
    | zero => intro i; rfl
    | succ d ih =>
      intro i
      have hr : rdOf false (List.replicate m false) (i : Int) = false := by
        simp only [rdOf, List.getD_eq_getElem?_getD, List.getElem?_replicate]; split <;> rfl
      simp only [deadFrom, hr, ih, Bool.false_and, Bool.or_self]
  exact h _ _
theorem st0_ok {n : Int} {l : List S88} (hl : layoutOk n l = 0) : stateOk n l (st0 n l).f0 (st0 n l).f1 (st0 n l).f2 = true := by
  have hn := lay_n hl
  refine stateOk_mk hl rfl (by simp [st0]; omega) (by simp [st0]) (fun j hj => ?_)
  have hz : rd_T50 (List.replicate n.toNat z50) (j : Int) = z50 := by
    simp only [rd_T50, List.getD_eq_getElem?_getD, List.getElem?_replicate]; split <;> rfl
  show secOk l (List.replicate l.length false) (j : Int) (rd_T50 (List.replicate n.toNat z50) (j : Int)) = true
  rw [hz, ok_iff, fine_iff, toldC, anyFalse]
  simp [z50]
theorem stAt_ok {n : Int} {l : List S88} (hl : layoutOk n l = 0) (es : List S56) (k : Nat) : stateOk n l (stAt n l es k).f0 (stAt n l es k).f1 (stAt n l es k).f2 = true := by
  unfold stAt
  have h : ∀ (es : List S56) (s : S46), stateOk n l s.f0 s.f1 s.f2 = true → stateOk n l (es.foldl (fun s e => (runStep n l s e).f1) s).f0 (es.foldl (fun s e => (runStep n l s e).f1) s).f1 (es.foldl (fun s e => (runStep n l s e).f1) s).f2 = true := by
    intro es
    induction es with
    | nil => intro s h; exact h
    | cons e es ih => intro s h; exact ih _ (step_ok h)
  exact h _ _ (st0_ok hl)
end Go.Proofs.Ytpdnabhpkdchjaa.P
namespace Go.Proofs.Ytpdnabhpkdchjaa.P
open Go.RowKit Go.Proofs.YtpdnabhpkdchjaaW.PrintWords Go.Proofs.YtpdnabhpkdchjaaW.PrintLast Go.Proofs.YtpdnabhpkdchjaaW.PrintMore
attribute [local go_sem] max2_int min2_int max_two min_two max_three min_three max_four min_four
set_option linter.unusedVariables false
set_option linter.unusedSimpArgs false
def IsS116 (w0 W:World) (g:Nat) (f0:List Int) (f1:Int) (f2:Int):Prop:=∃ A0 c0,W.heap[g]?=some (.cells #[.slice A0 f0.length c0,.int .i64 f1,.int .u64 f2] 116 (0,0))∧w0.heap.size≤g∧Kd.C (Kd.int .u8) w0 A0 f0.length f0
theorem IsS116.grown {w0 W:World} {g:Nat} {f0:List Int} {f1:Int} {f2:Int} {W1:World} {row:Option Nat} (h:IsS116 w0 W g f0 f1 f2) (hw:W.grownBy W1 row) (hne:some g ≠ row):IsS116 w0 W1 g f0 f1 f2:=by
 obtain ⟨A0,c0,hb,hg,hr0⟩:=h
 exact ⟨A0,c0,blk_grown hb hw hne,hg,hr0⟩
theorem IsS116.kept {w0 W:World} {g:Nat} {f0:List Int} {f1:Int} {f2:Int} {W1:World} {S:Nat→Prop} (h:IsS116 w0 W g f0 f1 f2) (hk:Kept W W1 S) (hne:¬ S g):IsS116 w0 W1 g f0 f1 f2:=by
 obtain ⟨A0,c0,hb,hg,hr0⟩:=h
 exact ⟨A0,c0,blk_kept hb hk hne,hg,hr0⟩
theorem IsS116.below {w0 W:World} {g:Nat} {f0:List Int} {f1:Int} {f2:Int} {W1:World} (h:IsS116 w0 W g f0 f1 f2) (hw:Below W.heap.size W W1):IsS116 w0 W1 g f0 f1 f2:=h.grown (grown_of_below hw none) (by simp)
theorem IsS116.alloc {w0 W:World} {g:Nat} {f0:List Int} {f1:Int} {f2:Int} (h:IsS116 w0 W g f0 f1 f2) (o:Obj):IsS116 w0 (W.alloc o) g f0 f1 f2:=h.below (below_alloc (Below.refl _ _) o)
theorem IsS116.drewN {w0 W:World} {g:Nat} {f0:List Int} {f1:Int} {f2:Int} (h:IsS116 w0 W g f0 f1 f2) (m:Nat):IsS116 w0 (W.drewN m) g f0 f1 f2:=h
theorem IsS116.drew {w0 W:World} {g:Nat} {f0:List Int} {f1:Int} {f2:Int} (h:IsS116 w0 W g f0 f1 f2):IsS116 w0 W.drew g f0 f1 f2:=h
theorem IsS116.at_ {w0 W:World} {g:Nat} {f0:List Int} {f1:Int} {f2:Int} {w':World} {m:Nat} (hq:W.drewN m=w') (h:IsS116 w0 W g f0 f1 f2):IsS116 w0 w' g f0 f1 f2:=by subst hq;exact IsS116.drewN h m
theorem IsS116.apart {w0 W:World} {g:Nat} {f0:List Int} {f1:Int} {f2:Int} {α:Type} {d:Kd α} {e:Nat} {base:Nat} {ok:Nat→Prop} {v:Value} {xs:List α} (h:IsS116 w0 W g f0 f1 f2) (ho:d.R e W base ok v xs) (ht:∀ q,q ∈ e :: d.E→q ≠ 116):d.R e W base (fun k=>ok k∧k ≠ g) v xs:=by
 obtain ⟨A0,c0,hb,hg,hr0⟩:=h
 exact Kd.R_types ho hb ht
theorem IsS116.own_ne {w0 W:World} {g:Nat} {f0:List Int} {f1:Int} {f2:Int} {α:Type} {d:Kd α} {e:Nat} {base:Nat} {ok:Nat→Prop} {v:Value} {xs:List α} (h:IsS116 w0 W g f0 f1 f2) (ho:d.R e W base ok v xs) (ht:e ≠ 116):some g ≠ v.ownBlock:=by
 obtain ⟨A0,c0,hb,hg,hr0⟩:=h
 exact Kd.R_ne ho hb ht
theorem IsS116.ge {w0 W:World} {g:Nat} {f0:List Int} {f1:Int} {f2:Int} (h:IsS116 w0 W g f0 f1 f2):w0.heap.size≤g:=by
 obtain ⟨A0,c0,hb,hg,hr0⟩:=h
 exact hg
end Go.Proofs.Ytpdnabhpkdchjaa.P
namespace Go.Proofs.Ytpdnabhpkdchjaa.P
open Go.RowKit Go.Proofs.YtpdnabhpkdchjaaW.PrintWords Go.Proofs.YtpdnabhpkdchjaaW.PrintLast Go.Proofs.YtpdnabhpkdchjaaW.PrintMore
set_option linter.unusedVariables false
set_option linter.unusedSimpArgs false
structure CurOk (code : List Int) (b : Int) (c : Int × Int) : Prop where
  bytes : ∀ x ∈ code, 0 ≤ x ∧ x < 256
  lo : 0 ≤ c.1
  hi : c.1 ≤ b
theorem CurOk.mono {code : List Int} {b b' : Int} {c : Int × Int} (h : CurOk code b c) (hb : b ≤ b') : CurOk code b' c := ⟨h.bytes, h.lo, Int.le_trans h.hi hb⟩
theorem tmod_in {x m : Int} (hx : 0 ≤ x) (hm : 0 < m) : 0 ≤ Int.tmod x m ∧ Int.tmod x m < m := by
  rw [Int.tmod_eq_emod_of_nonneg hx]
  exact ⟨Int.emod_nonneg _ (by omega), Int.emod_lt_of_pos _ hm⟩
end Go.Proofs.Ytpdnabhpkdchjaa.P
namespace Go.Proofs.Ytpdnabhpkdchjaa.P
open Go.RowKit Go.Proofs.YtpdnabhpkdchjaaW.PrintWords Go.Proofs.YtpdnabhpkdchjaaW.PrintLast Go.Proofs.YtpdnabhpkdchjaaW.PrintMore
set_option linter.unusedVariables false
structure EvP where
  c : Int × Int
  th : List Int
  dead : Int
  out : List S56
end Go.Proofs.Ytpdnabhpkdchjaa.P
namespace Go.Proofs.Ytpdnabhpkdchjaa.P
open Go.RowKit Go.Proofs.YtpdnabhpkdchjaaW.PrintWords Go.Proofs.YtpdnabhpkdchjaaW.PrintLast Go.Proofs.YtpdnabhpkdchjaaW.PrintMore
attribute [local go_sem] max2_int min2_int max_two min_two max_three min_three max_four min_four
set_option linter.unusedVariables false
set_option linter.unusedSimpArgs false
def slices_Min_int_int.l0:Nat→List Int→Int→Int→Option (Int)
 | 0,_,_,_=>none
 | k+1,x0,x3,x4=>if x4<(x0.length:Int) then (if 0≤x4 then (slices_Min_int_int.l0 k x0 (mn x3 (rd x0 x4)) (wrap64 (x4+1))) else (none)) else (some x3)
def slices_Min_int_int.f (k:Nat) (l0:List Int):Option (Int):=if (l0.length:Int)<1 then (none) else (if 0<(l0.length:Int) then (slices_Min_int_int.l0 k l0 (rd l0 0) 1) else (none))
set_option maxHeartbeats 8000000 in
set_option maxRecDepth 100000 in
theorem slices_Min_int_int.calls (k:Nat) (A0:Option Addr) (c0:Nat) (l0:List Int) (r:Int) (w:World) (hr0:Kd.C (Kd.int .i64) w A0 l0.length l0) (hc0:l0.length≤c0) (h:slices_Min_int_int.f k l0=some r) :
  Calls Try.prog 106 #[.slice A0 l0.length c0] w fun e w'=>e=.returned (.int .i64 r)∧Below w.heap.size w w':=by
 have HR0:=Aside0.mk hr0
 have HC0:=Aside0.mk hc0
 clear hr0 hc0
 have HB:=Aside0.mk (Below.refl w.heap.size w)
 have H:(if (l0.length:Int)<1 then (none) else (if 0<(l0.length:Int) then (slices_Min_int_int.l0 k l0 (rd l0 0) 1) else (none)))=some r:=h
 clear h
 by_cases c2:(l0.length:Int)<1
 ·rw [if_pos c2] at H
  exact absurd H (by simp)
 rw [if_neg c2] at H
 have c2b0:decide ((l0.length:Int)<1)=false:=decide_eq_false c2
 have c2b1:decide (l0.length<1)=false:=decide_eq_false (by omega)
 clear c2
 by_cases c3:0<(l0.length:Int)
 ·rw [if_pos c3] at H
  have c3b0:decide (0<(l0.length:Int))=true:=decide_eq_true c3
  have c3b1:decide (0<l0.length)=true:=decide_eq_true (by omega)
  clear c3
  have H':=Aside0.mk H
  clear H
  have p635:0≤(0:Int):=(by omega)
  have q635:0<(l0.length:Int):=of_decide_eq_true (by first|(with_reducible assumption)|assumption)
  obtain ⟨ad635,e635,hx635_0⟩:=Kd.at_int HR0.out 0 p635 q635
  cases e635
  have qi635:(0<l0.length)=True:=eq_true (by omega)
  (try rw [show ((0:Int)).toNat=0 from rfl] at hx635_0)
  (try rw [Addr.add_zero'] at hx635_0)
  replace p635:=eq_true p635
  replace q635:=eq_true q635
  go_enter Try.func106,Try.ntmps106
  go_wp2
  go_loopg [3,4] k (fun kq v3 v4 w'=>∃ (x3_1:Int) (x4_1:Int),v3=.int .i64 x3_1∧v4=.int .i64 x4_1∧Aside0 (slices_Min_int_int.l0 kq l0 x3_1 x4_1=some r)∧Aside0 (kq≤k)∧Aside0 (Below w.heap.size w w'))
  case atStart=>exact ⟨(rd l0 0),(1),(by first|rfl|(simp;done)|(simp [*];done)),(by first|rfl|(simp;done)|(simp [*];done)),H',⟨Nat.le_refl _⟩,⟨by repeat (first|(with_reducible first|exact HB.out|apply below_alloc|apply pw_below_drewN|apply below_drew1)|exact HB.out)⟩⟩
  case round =>
   clear H'
   try clear c1
   try clear c2
   try clear c2b0
   try clear c2b1
   try clear p2
   try clear c3
   try clear c3b0
   try clear c3b1
   try clear hx635_0
   try clear p635
   try clear q635
   obtain ⟨x3_1,x4_1,rfl,rfl,HA,HK1,HB⟩:=hrel
   cases gk with
   | zero=>exact absurd HA.out (by simp [slices_Min_int_int.l0])
   | succ k1 =>
    have H:=HA.out
    clear HA
    simp only [slices_Min_int_int.l0] at H
    by_cases c4:x4_1<(l0.length:Int)
    ·rw [if_pos c4] at H
     have c4b0:decide (x4_1<(l0.length:Int))=true:=decide_eq_true c4
     clear c4
     by_cases c5:0≤x4_1
     ·rw [if_pos c5] at H
      have c5b0:decide (0≤x4_1)=true:=decide_eq_true c5
      clear c5
      obtain ⟨ji6,hji6⟩:∃ j_:Int,(mn x3_1 (rd l0 x4_1))=j_:=⟨_,rfl⟩
      replace H:(slices_Min_int_int.l0 k1 l0 ji6 (wrap64 (x4_1+1)))=some r:=by first|(rw [hji6] at H;exact H)|(simp only [hji6] at H ⊢;exact H)
      have hji6_:(if (rd l0 x4_1)<x3_1 then (rd l0 x4_1) else x3_1)=ji6:=hji6
      have H':=Aside0.mk H
      clear H
      have p636:0≤(x4_1:Int):=of_decide_eq_true (by first|(with_reducible assumption)|assumption)
      have q636:x4_1<(l0.length:Int):=of_decide_eq_true (by first|(with_reducible assumption)|assumption)
      obtain ⟨ad636,e636,hx636_0⟩:=Kd.at_int HR0.out x4_1 p636 q636
      obtain rfl:ad635=ad636:=(by injection e636)
      replace hx636_0:=(HB.out.cell (World.block_lt_of_cell? w _ hx636_0)).trans hx636_0
      replace p636:=eq_true p636
      replace q636:=eq_true q636
      go_wp2
      go_roundg k1
      case measure=>have:=HK1.out;omega
      case rel=>exact ⟨(ji6),(wrap64 (x4_1+1)),(by first|rfl|(simp;done)|(simp only [← hji6] <;> (first|rfl|simp))|(simp [*];done)),(by first|rfl|(simp;done)|(simp [*];done)),H',⟨by have:=HK1.out;omega⟩,⟨by repeat (first|(with_reducible first|exact HB.out|apply below_alloc|apply pw_below_drewN|apply below_drew1)|exact HB.out)⟩⟩
     rw [if_neg c5] at H
     exact absurd H (by simp)
    rw [if_neg c4] at H
    have c4b0:decide (x4_1<(l0.length:Int))=false:=decide_eq_false c4
    clear c4
    obtain rfl:=Option.some.inj H
    go_wp2
    go_ret
    exact ⟨by first|rfl|(simp [errW_none,errW_some] <;> rfl)|(simp [*,errW_none,errW_some] <;> rfl),by repeat (first|(with_reducible first|exact HB.out|apply below_alloc|apply pw_below_drewN|apply below_drew1)|exact HB.out)⟩
 rw [if_neg c3] at H
 exact absurd H (by simp)
end Go.Proofs.Ytpdnabhpkdchjaa.P
namespace Go.Proofs.Ytpdnabhpkdchjaa.P
open Go.RowKit Go.Proofs.YtpdnabhpkdchjaaW.PrintWords Go.Proofs.YtpdnabhpkdchjaaW.PrintLast
set_option linter.unusedVariables false
set_option linter.unusedSimpArgs false
def nonneg (row : List Int) : Bool := row.all fun x => decide (0 ≤ x)
def honestAt (n : Int) (l : List S88) (es : List S56) (k : Nat) : Bool :=
  eventOk n l (rd_T56 es k).f0 (rd_T56 es k).f1 (rd_T56 es k).f2 && !(decide ((rd_T56 es k).f0 = 5) && !(decide (rd (truthAt n l es (k + 1)) (rd_T56 es k).f1 = 0))) && nonneg (truthAt n l es (k + 1))
def honestFrom (n : Int) (l : List S88) (es : List S56) : Nat → Nat → Bool
  | 0, _ => true
  | d + 1, i => honestAt n l es i && honestFrom n l es d (i + 1)
def honest (n : Int) (l : List S88) (es : List S56) : Bool := decide (layoutOk n l = 0) && decide (es.length ≤ 2000) && honestFrom n l es es.length 0
section
variable {n : Int} {l : List S88} {es : List S56}
theorem truth_good (hl : layoutOk n l = 0) (he : es.length ≤ 2000) : truth n l es = (List.range es.length).map fun k => truthAt n l es (k + 1) := by rw [truth, if_pos ⟨hl, he⟩]
theorem truth_len (hl : layoutOk n l = 0) (he : es.length ≤ 2000) : (truth n l es).length = es.length := by rw [truth_good hl he]; simp
theorem truth_rd (hl : layoutOk n l = 0) (he : es.length ≤ 2000) (i : Nat) (hi : i < es.length) : rd_L12 (truth n l es) (i : Int) = truthAt n l es (i + 1) := by
  rw [truth_good hl he]
  simp [rd_L12, hi]
theorem eventOk_reset {op of dir : Int} (h : eventOk n l op of dir = true) (h5 : op = 5) : 0 ≤ of ∧ of < n := by
  subst h5
  unfold eventOk at h
  split at h
  · simp at h
    exact h.1
  · cases h
theorem rd_all {row : List Int} (h : nonneg row = true) (j : Nat) (hj : j < row.length) : ¬ rd row (j : Int) < 0 := by
  have h1 := List.all_eq_true.1 h row[j] (List.getElem_mem hj)
  have h2 : rd row (j : Int) = row[j] := by simp [rd, hj]
  rw [h2]
  simpa using h1
def minL : List Int → Int → Int
  | [], m => m
  | x :: xs, m => minL xs (mn m x)
theorem minL_neg : ∀ (xs : List Int) (m : Int), (minL xs m < 0) ↔ (m < 0 ∨ nonneg xs = false) := by
  intro xs
  induction xs with
  | nil => intro m; simp [minL, nonneg]
  | cons x xs ih =>
    intro m
    rw [minL, ih]
    simp only [nonneg, List.all_cons]
    have hm : mn m x < 0 ↔ (m < 0 ∨ x < 0) := by unfold mn; split <;> omega
    rw [hm]
    by_cases hx : x < 0
    · rw [decide_eq_false (show ¬ 0 ≤ x by omega)]; simp [hx]
    · rw [decide_eq_true (show 0 ≤ x by omega)]; simp [hx]
theorem min_l0 (row : List Int) (hrow : row.length < 9223372036854775807) (d : Nat) : ∀ (i : Nat) (m : Int), i + d = row.length → Ev (fun k => slices_Min_int_int.l0 k row m (i : Int)) (minL (row.drop i) m) := by
  induction d with
  | zero =>
    intro i m hi
    rw [List.drop_eq_nil_of_le (by omega)]
    refine Ev.step1 fun k => ?_
    simp only [slices_Min_int_int.l0]
    rw [if_neg (by omega)]
    rfl
  | succ d ih =>
    intro i m hi
    have hlt : i < row.length := by omega
    have hr : rd row (i : Int) = row[i] := by simp [rd, hlt]
    rw [List.drop_eq_getElem_cons hlt]
    refine Ev.step (fun k => ?_) (ih (i + 1) (mn m row[i]) (by omega))
    simp only [slices_Min_int_int.l0, hr, wrap_succ (show i < 9223372036854775807 by omega)]
    rw [if_pos (by omega), if_pos (by omega)]
theorem min_ev (row : List Int) (h0 : 0 < row.length) (hrow : row.length < 9223372036854775807) : Ev (fun k => slices_Min_int_int.f k row) (minL (row.drop 1) (rd row 0)) := by
  unfold slices_Min_int_int.f
  exact Ev.ite_neg (by omega) (Ev.ite_pos (by omega) (min_l0 row hrow (row.length - 1) 1 _ (by omega)))
theorem min_neg (row : List Int) (h0 : 0 < row.length) : (minL (row.drop 1) (rd row 0) < 0) ↔ nonneg row = false := by
  rw [minL_neg]
  cases row with
  | nil => simp at h0
  | cons x xs =>
    have : rd (x :: xs) 0 = x := by simp [rd]
    rw [this]
    simp only [List.drop_succ_cons, List.drop_zero, nonneg, List.all_cons]
    by_cases hx : x < 0
    · rw [decide_eq_false (show ¬ 0 ≤ x by omega)]; simp [hx]
    · rw [decide_eq_true (show 0 ≤ x by omega)]; simp [hx]
theorem truthAt_reset {j : Nat} (h : j < es.length) (h5 : (rd_T56 es j).f0 = 5) : truthAt n l es (j + 1) = truthAt n l es j := by
  rw [truthAt_succ h, tstep, if_neg]
  rw [rd56 es j h] at h5
  simp [isPass, h5]
theorem honestAt_not {j : Nat} (h : eventOk n l (rd_T56 es j).f0 (rd_T56 es j).f1 (rd_T56 es j).f2 = false) : honestAt n l es j = false := by unfold honestAt; rw [h]; rfl
theorem honestAt_zero {j : Nat} (h : eventOk n l (rd_T56 es j).f0 (rd_T56 es j).f1 (rd_T56 es j).f2 = true) (hz : rd (truthAt n l es (j + 1)) (rd_T56 es j).f1 = 0) : honestAt n l es j = nonneg (truthAt n l es (j + 1)) := by
  unfold honestAt; rw [h, decide_eq_true hz, Bool.not_true, Bool.and_false]; rfl
theorem honestAt_some {j : Nat} (h5 : (rd_T56 es j).f0 = 5) (hz : ¬ rd (truthAt n l es (j + 1)) (rd_T56 es j).f1 = 0) : honestAt n l es j = false := by
  unfold honestAt; rw [decide_eq_true h5, decide_eq_false hz, Bool.not_false, Bool.and_true, Bool.not_true, Bool.and_false]; rfl
theorem honestAt_other {j : Nat} (h : eventOk n l (rd_T56 es j).f0 (rd_T56 es j).f1 (rd_T56 es j).f2 = true) (h5 : ¬ (rd_T56 es j).f0 = 5) : honestAt n l es j = nonneg (truthAt n l es (j + 1)) := by
  unfold honestAt; rw [h, decide_eq_false h5, Bool.false_and]; rfl
end
end Go.Proofs.Ytpdnabhpkdchjaa.P
namespace Go.Proofs.Ytpdnabhpkdchjaa.P
open Go.RowKit Go.Proofs.YtpdnabhpkdchjaaW.PrintWords Go.Proofs.YtpdnabhpkdchjaaW.PrintLast Go.Proofs.YtpdnabhpkdchjaaW.PrintMore
set_option linter.unusedVariables false
set_option linter.unusedSimpArgs false
section
variable {code : List Int} {n : Int} {l : List S88} {ho : Bool}
theorem truthAt_app (es : List S56) (e : S56) (k : Nat) (h : k ≤ es.length) : truthAt n l (es ++ [e]) k = truthAt n l es k := by
  rw [truthAt, truthAt, List.take_append_of_le_length h]
theorem truthAt_last (es : List S56) (e : S56) : truthAt n l (es ++ [e]) (es ++ [e]).length = tstep n l (truthAt n l es es.length) e := by
  rw [truthAt, truthAt, List.take_length, List.take_length, List.foldl_append]
  rfl
theorem rd_set (row : List Int) (i j : Nat) (v : Int) (hi : i < row.length) : rd (row.set i v) (j : Int) = if i = j then v else rd row (j : Int) := by
  simp only [rd, Int.toNat_natCast, List.getD_eq_getElem?_getD, List.getElem?_set]
  by_cases e : i = j
  · subst e; simp [hi]
  · simp [e]
theorem nonneg_of {row : List Int} (h : ∀ j : Nat, j < row.length → 0 ≤ rd row (j : Int)) : nonneg row = true := by
  unfold nonneg
  refine List.all_eq_true.2 fun x hx => ?_
  obtain ⟨j, hj, rfl⟩ := List.mem_iff_getElem.1 hx
  have := h j hj
  rw [show rd row (j : Int) = row[j] by simp [rd, hj]] at this
  simpa using this
def mvAt (f t : Int) (j : Nat) (x : Int) : Int := if f = (j : Int) then x - 1 else if t = (j : Int) then x + 1 else x
theorem rd_upd (row : List Int) (f v : Int) (hf : f < row.length) (j : Nat) : rd (if 0 ≤ f then row.set f.toNat v else row) (j : Int) = if f = (j : Int) then v else rd row (j : Int) := by
  by_cases h0 : 0 ≤ f
  · obtain ⟨a, rfl⟩ := Int.eq_ofNat_of_zero_le h0
    rw [if_pos h0, Int.toNat_natCast, rd_set row a j v (by omega)]
    by_cases e : a = j
    · rw [if_pos e, if_pos (by omega)]
    · rw [if_neg e, if_neg (by omega)]
  · rw [if_neg h0, if_neg (by omega)]
theorem upd_length (row : List Int) (f v : Int) : (if 0 ≤ f then row.set f.toNat v else row).length = row.length := by split <;> simp
theorem axle_rd (c : S88) (d : Int) (row : List Int) (hd : d = 1 ∨ d = -1) (hf : c.f0 < row.length) (ht : c.f1 < row.length) (hne : c.f0 ≠ c.f1) (hb : ∀ j : Nat, -1000000 ≤ rd row (j : Int) ∧ rd row (j : Int) ≤ 1000000) (hf0 : -1 ≤ c.f0) (ht0 : -1 ≤ c.f1) (j : Nat) :
    rd (axle c d row) (j : Int) = mvAt (if d < 0 then c.f1 else c.f0) (if d < 0 then c.f0 else c.f1) j (rd row (j : Int)) := by
  have hbj := hb j
  have key : rd (axle c d row) (j : Int) = if c.f0 = (j : Int) then rd row (j : Int) - d else if c.f1 = (j : Int) then rd row (j : Int) + d else rd row (j : Int) := by
    unfold axle
    simp only []
    rw [rd_upd _ c.f1 _ (by rw [upd_length]; exact ht) j]
    by_cases et : c.f1 = (j : Int)
    · have hfj : ¬ c.f0 = (j : Int) := by omega
      rw [if_pos et, et, rd_upd row c.f0 _ hf j, if_neg hfj, if_neg hfj, if_pos rfl, wrap_id (by omega) (by omega)]
    · rw [if_neg et, rd_upd row c.f0 _ hf j, if_neg et]
      by_cases ef : c.f0 = (j : Int)
      · rw [if_pos ef, if_pos ef, ef, wrap_id (by omega) (by omega)]
      · rw [if_neg ef, if_neg ef]
  rw [key]
  unfold mvAt
  rcases hd with rfl | rfl
  · simp
  · simp only [show ((-1 : Int) < 0) from by decide, if_true]
    by_cases e0 : c.f0 = (j : Int)
    · rw [if_pos e0, if_neg (by omega), if_pos e0]; omega
    · rw [if_neg e0]
      by_cases e1 : c.f1 = (j : Int)
      · rw [if_pos e1, if_pos e1]; omega
      · rw [if_neg e1, if_neg e1, if_neg e0]
def HonP (n : Int) (l : List S88) (es : List S56) : Prop := ∀ k : Nat, k < es.length → ((rd_T56 es (k : Int)).f0 = 5 → rd (truthAt n l es k) (rd_T56 es (k : Int)).f1 = 0) ∧ nonneg (truthAt n l es (k + 1)) = true
theorem rd56_app_lt (es : List S56) (e : S56) (k : Nat) (h : k < es.length) : rd_T56 (es ++ [e]) (k : Int) = rd_T56 es (k : Int) := by
  rw [rd56 _ k (by simp; omega), rd56 _ k h, List.getElem_append_left h]
theorem rd56_app_eq (es : List S56) (e : S56) : rd_T56 (es ++ [e]) (es.length : Int) = e := by
  rw [rd56 _ es.length (by simp)]; simp
theorem HonP.app {es : List S56} {e : S56} (h : HonP n l es) (h5 : e.f0 = 5 → rd (truthAt n l es es.length) e.f1 = 0) (hn : nonneg (tstep n l (truthAt n l es es.length) e) = true) : HonP n l (es ++ [e]) := by
  intro k hk
  rw [List.length_append, List.length_singleton] at hk
  by_cases e1 : k < es.length
  · rw [rd56_app_lt es e k e1, truthAt_app es e k (by omega), truthAt_app es e (k + 1) (by omega)]
    exact h k e1
  · have : k = es.length := by omega
    subst this
    rw [rd56_app_eq, truthAt_app es e _ (Nat.le_refl _)]
    refine ⟨h5, ?_⟩
    have := truthAt_last (n := n) (l := l) es e
    rw [List.length_append, List.length_singleton] at this
    rw [this]
    exact hn
theorem honest_of {es : List S56} (hl : layoutOk n l = 0) (he : es.length ≤ 2000) (hok : ∀ e ∈ es, eventOk n l e.f0 e.f1 e.f2 = true) (h : HonP n l es) : honest n l es = true := by
  have key : ∀ d i : Nat, i + d = es.length → honestFrom n l es d i = true := by
    intro d
    induction d with
    | zero => intro i _; rfl
    | succ d ih =>
      intro i hi
      have hlt : i < es.length := by omega
      obtain ⟨h1, h2⟩ := h i hlt
      have h3 : eventOk n l (rd_T56 es (i : Int)).f0 (rd_T56 es (i : Int)).f1 (rd_T56 es (i : Int)).f2 = true := by
        rw [rd56 es i hlt]; exact hok _ (List.getElem_mem hlt)
      have h4 : (rd_T56 es (i : Int)).f0 = 5 → rd (truthAt n l es (i + 1)) (rd_T56 es (i : Int)).f1 = 0 := fun h5 => by rw [truthAt_reset hlt h5]; exact h1 h5
      unfold honestFrom
      rw [ih (i + 1) (by omega), Bool.and_true]
      unfold honestAt
      rw [h3, h2, Bool.true_and, Bool.and_true]
      by_cases h5 : (rd_T56 es (i : Int)).f0 = 5
      · rw [decide_eq_true h5, decide_eq_true (h4 h5)]; rfl
      · rw [decide_eq_false h5]; rfl
  unfold honest
  rw [decide_eq_true hl, decide_eq_true he, key es.length 0 (by omega)]
  rfl
structure EvI (n : Int) (l : List S88) (ho : Bool) (s : EvP) : Prop where
  th : s.th = truthAt n l s.out s.out.length
  dead0 : -1 ≤ s.dead
  dead1 : s.dead < (l.length : Int)
  ok : ∀ e ∈ s.out, eventOk n l e.f0 e.f1 e.f2 = true
  bd : ∀ j : Nat, -(s.out.length : Int) ≤ rd s.th (j : Int) ∧ rd s.th (j : Int) ≤ (s.out.length : Int)
  hon : ho = true → HonP n l s.out ∧ nonneg s.th = true
theorem EvI.skip {s : EvP} (h : EvI n l ho s) (c : Int × Int) (d : Int) (h0 : -1 ≤ d) (h1 : d < (l.length : Int)) : EvI n l ho ⟨c, s.th, d, s.out⟩ := ⟨h.th, h0, h1, h.ok, h.bd, h.hon⟩
theorem mem_snoc {e x : S56} {es : List S56} (h : x ∈ es ++ [e]) : x ∈ es ∨ x = e := by simpa using h
theorem EvI.add {s : EvP} (h : EvI n l ho s) (c : Int × Int) (d : Int) (h0 : -1 ≤ d) (h1 : d < (l.length : Int)) (e : S56) (hok : eventOk n l e.f0 e.f1 e.f2 = true) (hne : e.f0 ≠ 1) (h5 : ho = true → e.f0 = 5 → rd s.th e.f1 = 0) :
    EvI n l ho ⟨c, s.th, d, s.out ++ [e]⟩ := by
  have ht : tstep n l s.th e = s.th := by
    unfold tstep isPass
    rw [decide_eq_false hne, Bool.and_false]; rfl
  have hl := truthAt_last (n := n) (l := l) s.out e
  rw [← h.th, ht] at hl
  refine ⟨hl.symm, h0, h1, fun x hx => ?_, fun j => ?_, fun hh => ?_⟩
  · rcases mem_snoc hx with hx | rfl
    · exact h.ok x hx
    · exact hok
  · have := h.bd j
    simp only [List.length_append, List.length_singleton]
    exact ⟨by omega, by omega⟩
  · obtain ⟨k1, k2⟩ := h.hon hh
    refine ⟨k1.app (fun q => by rw [← h.th]; exact h5 hh q) (by rw [← h.th, ht]; exact k2), k2⟩
theorem ok12 (hl0 : layoutOk n l = 0) {op k d : Int} (ho : op = 1 ∨ op = 2) (h0 : 0 ≤ k) (h1 : k < (l.length : Int)) (hd : d = 1 ∨ d = -1) : eventOk n l op k d = true := by
  unfold eventOk
  rw [if_pos hl0, if_pos ho, decide_eq_true h0, decide_eq_true h1]
  rcases hd with rfl | rfl <;> rfl
end
end Go.Proofs.Ytpdnabhpkdchjaa.P
namespace Go.Proofs.Ytpdnabhpkdchjaa.P
open Go.RowKit Go.Proofs.YtpdnabhpkdchjaaW.PrintWords Go.Proofs.YtpdnabhpkdchjaaW.PrintLast Go.Proofs.YtpdnabhpkdchjaaW.PrintMore
set_option linter.unusedVariables false
set_option linter.unusedSimpArgs false
theorem rd_runTo (n : Int) (l : List S88) (es : List S56) (m i : Nat) (h : i < m) : rd_T48 (runTo n l es m) (i : Int) = runStep n l (stAt n l es i) (rd_T56 es (i : Int)) := by
  simp [rd_T48, runTo, h]
end Go.Proofs.Ytpdnabhpkdchjaa.P
namespace Go.Proofs.Ytpdnabhpkdchjaa.P
open Go.RowKit Go.Proofs.YtpdnabhpkdchjaaW.PrintWords Go.Proofs.YtpdnabhpkdchjaaW.PrintLast Go.Proofs.YtpdnabhpkdchjaaW.PrintMore
set_option linter.unusedVariables false
set_option linter.unusedSimpArgs false
section
variable {n : Int} {l : List S88} {es : List S56}
def midAt (l : List S88) (op of dir : Int) (j : Nat) (x : S50) : S50 :=
  let c := rd_T88 l of
  let f := if dir = -1 then c.f1 else c.f0
  let t := if dir = -1 then c.f0 else c.f1
  if op = 1 then (if f = (j : Int) then countS x (-1) else if t = (j : Int) then countS x 1 else x)
  else if op = 2 then (if t = (j : Int) then countS x 1 else x)
  else if op = 3 then (if c.f0 = (j : Int) ∨ c.f1 = (j : Int) then loseS x else x)
  else if op = 5 then (if of = (j : Int) then ⟨0, 0, false, true, 0⟩ else x) else x
theorem mid_get (ss : List S50) (op of dir : Int) (hne : op = 1 ∨ op = 3 → (rd_T88 l of).f0 ≠ (rd_T88 l of).f1) (h0 : 0 ≤ of) (j : Nat) (hj : j < ss.length) : rd_T50 (midSecs l ss op of dir) (j : Int) = midAt l op of dir j (rd_T50 ss (j : Int)) := by
  unfold midSecs midAt
  simp only []
  by_cases h1 : op = 1
  · have hn := hne (.inl h1)
    rw [if_pos h1, if_pos h1, addS_get _ _ _ j (by rw [addS_length]; exact hj), addS_get _ _ _ j hj]
    by_cases hd : dir = -1
    · simp only [if_pos hd]
      by_cases e1 : (rd_T88 l of).f1 = (j : Int)
      · rw [if_pos e1, if_pos e1, if_neg (by omega)]
      · rw [if_neg e1, if_neg e1]
    · simp only [if_neg hd]
      by_cases e1 : (rd_T88 l of).f0 = (j : Int)
      · rw [if_pos e1, if_pos e1, if_neg (by omega)]
      · rw [if_neg e1, if_neg e1]
  · rw [if_neg h1, if_neg h1]
    by_cases h2 : op = 2
    · rw [if_pos h2, if_pos h2, addS_get _ _ _ j hj]
    · rw [if_neg h2, if_neg h2]
      by_cases h3 : op = 3
      · have hn := hne (.inr h3)
        rw [if_pos h3, if_pos h3, loseAt_get _ _ j (by rw [loseAt_length]; exact hj), loseAt_get _ _ j hj]
        by_cases e1 : (rd_T88 l of).f1 = (j : Int)
        · rw [if_pos e1, if_neg (by omega), if_pos (.inr e1)]
        · rw [if_neg e1]
          by_cases e0 : (rd_T88 l of).f0 = (j : Int)
          · rw [if_pos e0, if_pos (.inl e0)]
          · rw [if_neg e0, if_neg (by omega)]
      · rw [if_neg h3, if_neg h3]
        by_cases h5 : op = 5
        · rw [if_pos h5, if_pos h5]
          obtain ⟨a, rfl⟩ := Int.eq_ofNat_of_zero_le h0
          by_cases e : a = j
          · subst e; simp [rd_T50, hj]
          · rw [if_neg (by omega)]; simp [rd_T50, List.getElem?_set_ne e]
        · rw [if_neg h5, if_neg h5]
theorem ev_cases {op of dir : Int} (h : eventOk n l op of dir = true) :
    ((op = 1 ∨ op = 2) ∧ 0 ≤ of ∧ of < (l.length : Int) ∧ (dir = 1 ∨ dir = -1)) ∨ ((op = 3 ∨ op = 4) ∧ 0 ≤ of ∧ of < (l.length : Int)) ∨ (op = 5 ∧ 0 ≤ of ∧ of < n) := by
  unfold eventOk at h
  split at h
  · split at h
    · rename_i h1
      simp at h
      exact .inl ⟨h1, h.1.1, h.1.2, h.2⟩
    · split at h
      · rename_i h1
        simp at h
        exact .inr (.inl ⟨h1, h.1.1, h.1.2⟩)
      · split at h
        · rename_i h1
          simp at h
          exact .inr (.inr ⟨h1, h.1.1, h.1.2⟩)
        · cases h
  · cases h
theorem step_get {s : S46} {e : S56} (hl : layoutOk n l = 0) (hok : eventOk n l e.f0 e.f1 e.f2 = true) (hc : doCode l s.f1 s.f2 e.f0 e.f1 = 0) (j : Nat) (hj : j < s.f1.length) :
    rd_T50 (runStep n l s e).f1.f1 (j : Int) = tellS l (midDead s.f2 e.f0 e.f1) j (midAt l e.f0 e.f1 e.f2 j (rd_T50 s.f1 (j : Int))) := by
  have h0 : 0 ≤ e.f1 ∧ (e.f0 = 1 ∨ e.f0 = 3 → (rd_T88 l e.f1).f0 ≠ (rd_T88 l e.f1).f1) := by
    rcases ev_cases hok with ⟨ho, h0, h1, _⟩ | ⟨ho, h0, h1⟩ | ⟨ho, h0, h1⟩
    · exact ⟨h0, fun _ => (lay_rd hl _ h0 h1).2.2.2.2⟩
    · exact ⟨h0, fun _ => (lay_rd hl _ h0 h1).2.2.2.2⟩
    · exact ⟨h0, fun h => by omega⟩
  unfold runStep
  rw [if_pos hok]
  show rd_T50 (doSecs l s.f1 s.f2 e.f0 e.f1 e.f2) (j : Int) = _
  unfold doSecs
  rw [if_pos hc, retold_get _ _ _ j (by rw [midSecs_length]; exact hj), mid_get _ _ _ _ h0.2 h0.1 j hj]
theorem tstep_pass {row : List Int} {e : S56} (hok : eventOk n l e.f0 e.f1 e.f2 = true) (h1 : e.f0 = 1) : tstep n l row e = axle (rd_T88 l e.f1) e.f2 row := by
  unfold tstep isPass
  rw [hok, decide_eq_true h1]
  rfl
theorem cnt_id {x : S50} {b : Int} {i : Nat} (hi : i ≤ 2000) (hb : b = 1 ∨ b = -1) (h : -(i : Int) ≤ x.f1 ∧ x.f1 ≤ (i : Int)) : cntN x b = x.f1 + b := by
  have : wrap64 (x.f1 + b) = x.f1 + b := wrap_id (by omega) (by omega)
  unfold cntN
  rw [this, if_pos (by omega)]
end
end Go.Proofs.Ytpdnabhpkdchjaa.P
namespace Go.Proofs.Ytpdnabhpkdchjaa.P
open Go.RowKit Go.Proofs.YtpdnabhpkdchjaaW.PrintWords Go.Proofs.YtpdnabhpkdchjaaW.PrintLast Go.Proofs.YtpdnabhpkdchjaaW.PrintMore
set_option linter.unusedVariables false
set_option linter.unusedSimpArgs false
section
variable {n : Int} {l : List S88} {es : List S56}
structure JustI (l : List S88) (s : S46) (row : List Int) (i : Nat) : Prop where
  dead : s.f2 = List.replicate l.length false
  sec : ∀ j : Nat, j < s.f1.length → (rd_T50 s.f1 (j : Int)).f1 = rd row (j : Int) ∧ (rd_T50 s.f1 (j : Int)).f2 = false ∧ (rd_T50 s.f1 (j : Int)).f3 = false
  rb : ∀ j : Nat, -(i : Int) ≤ rd row (j : Int) ∧ rd row (j : Int) ≤ (i : Int)
theorem dead_none (k : Int) (m : Nat) : rdOf false (List.replicate m false) k = false := by
  simp only [rdOf, List.getD_eq_getElem?_getD, List.getElem?_replicate]; split <;> rfl
theorem pass_code {s : S46} {op of : Int} (hd : s.f2 = List.replicate l.length false) (h1 : op = 1) : doCode l s.f1 s.f2 op of = 0 := by
  unfold doCode
  rw [if_pos (.inl h1), hd, dead_none]
  rfl
theorem just_step {s : S46} {row : List Int} {e : S56} {i : Nat} (hi : i < 2000) (hl : layoutOk n l = 0) (hsn : (s.f1.length : Int) = n) (hrow : row.length = n.toNat) (h : JustI l s row i) (hok : eventOk n l e.f0 e.f1 e.f2 = true) (h1 : e.f0 = 1) (hnn : nonneg (tstep n l row e) = true) :
    JustI l (runStep n l s e).f1 (tstep n l row e) (i + 1) := by
  have hn := lay_n hl
  have hlen := (runStep_len n l s e).1
  have hrb : ∀ j : Nat, -1000000 ≤ rd row (j : Int) ∧ rd row (j : Int) ≤ 1000000 := fun j => by have := h.rb j; omega
  have hc : doCode l s.f1 s.f2 e.f0 e.f1 = 0 := pass_code h.dead h1
  rcases ev_cases hok with ⟨_, h0, h2, hd⟩ | ⟨ho, _⟩ | ⟨ho, _⟩
  · have hx := lay_rd hl _ h0 h2
    have hrow' : ∀ j : Nat, rd (tstep n l row e) (j : Int) = mvAt (if e.f2 < 0 then (rd_T88 l e.f1).f1 else (rd_T88 l e.f1).f0) (if e.f2 < 0 then (rd_T88 l e.f1).f0 else (rd_T88 l e.f1).f1) j (rd row (j : Int)) := fun j => by
      rw [tstep_pass hok h1]
      exact axle_rd _ _ _ hd (by rw [hrow]; omega) (by rw [hrow]; omega) hx.2.2.2.2 hrb hx.1 hx.2.2.1 j
    have hdd : (if e.f2 = -1 then (rd_T88 l e.f1).f1 else (rd_T88 l e.f1).f0) = (if e.f2 < 0 then (rd_T88 l e.f1).f1 else (rd_T88 l e.f1).f0) ∧ (if e.f2 = -1 then (rd_T88 l e.f1).f0 else (rd_T88 l e.f1).f1) = (if e.f2 < 0 then (rd_T88 l e.f1).f0 else (rd_T88 l e.f1).f1) := by
      rcases hd with hd | hd <;> simp [hd]
    refine ⟨?_, fun j hj => ?_, fun j => ?_⟩
    · have hz : doDead l s.f1 s.f2 e.f0 e.f1 = s.f2 := by
        unfold doDead midDead
        rw [if_pos hc, if_neg (by omega), if_neg (by omega)]
      unfold runStep
      rw [if_pos hok]
      show doDead l s.f1 s.f2 e.f0 e.f1 = _
      rw [hz, h.dead]
    · rw [hlen] at hj
      rw [step_get hl hok hc j hj, hrow' j]
      have hs := h.sec j hj
      have hb := h.rb j
      have hnj := rd_all hnn j (by rw [tstep_length, hrow]; omega)
      rw [hrow' j] at hnj
      rw [← hs.1] at hb hnj ⊢
      have c1 := cnt_id (x := rd_T50 s.f1 (j : Int)) (b := 1) (i := i) (by omega) (.inl rfl) hb
      have c2 := cnt_id (x := rd_T50 s.f1 (j : Int)) (b := -1) (i := i) (by omega) (.inr rfl) hb
      generalize rd_T50 s.f1 (j : Int) = x at *
      unfold midAt tellS
      simp only [h1, if_true]
      rw [hdd.1, hdd.2]
      generalize (if e.f2 < 0 then (rd_T88 l e.f1).f1 else (rd_T88 l e.f1).f0) = f at *
      generalize (if e.f2 < 0 then (rd_T88 l e.f1).f0 else (rd_T88 l e.f1).f1) = t at *
      unfold mvAt at hnj ⊢
      by_cases ef : f = (j : Int)
      · rw [if_pos ef] at hnj
        simp only [if_pos ef, countS]
        exact ⟨by rw [c2]; omega, by rw [c2, hs.2.1]; simp; omega, by rw [hs.2.2]; rfl⟩
      · simp only [if_neg ef] at hnj ⊢
        by_cases et : t = (j : Int)
        · rw [if_pos et] at hnj
          simp only [if_pos et, countS]
          exact ⟨by rw [c1], by rw [c1, hs.2.1]; simp; omega, by rw [hs.2.2]; rfl⟩
        · simp only [if_neg et] at hnj ⊢
          exact ⟨trivial, hs.2⟩
    · rw [hrow' j]
      have hb := h.rb j
      unfold mvAt
      split
      · omega
      · split <;> omega
  · omega
  · omega
theorem just_at (hl : layoutOk n l = 0) (he : es.length ≤ 2000) (hok : ∀ e ∈ es, eventOk n l e.f0 e.f1 e.f2 = true) (hp : ∀ e ∈ es, e.f0 = 1) (h : HonP n l es) : ∀ k : Nat, k ≤ es.length → JustI l (stAt n l es k) (truthAt n l es k) k := by
  have hn := lay_n hl
  intro k
  induction k with
  | zero =>
    intro _
    have hz : ∀ j : Nat, rd_T50 (stAt n l es 0).f1 (j : Int) = z50 := fun j => by
      rw [stAt_zero]
      show rd_T50 (List.replicate n.toNat z50) (j : Int) = z50
      simp only [rd_T50, List.getD_eq_getElem?_getD, List.getElem?_replicate]
      split <;> rfl
    have hr : ∀ j : Nat, rd (truthAt n l es 0) (j : Int) = 0 := fun j => by
      rw [truthAt, List.take_zero, List.foldl_nil, row0, rd]
      simp only [List.getD_eq_getElem?_getD, List.getElem?_replicate]
      split <;> rfl
    exact ⟨by rw [stAt_zero]; rfl, fun j _ => by rw [hr, hz]; exact ⟨rfl, rfl, rfl⟩, fun j => by rw [hr]; exact ⟨Int.le_refl _, Int.le_refl _⟩⟩
  | succ k ih =>
    intro hk
    have hk' : k < es.length := by omega
    have hmem := List.getElem_mem hk'
    have h2 := (h k hk').2
    rw [truthAt_succ hk'] at h2
    rw [stAt_succ n l es k hk', truthAt_succ hk', rd56 es k hk']
    exact just_step (by omega) hl (by rw [(stAt_len n l es k).1]; omega) (truthAt_length _ _ _ _) (ih (by omega)) (hok _ hmem) (hp _ hmem) h2
end
end Go.Proofs.Ytpdnabhpkdchjaa.P
namespace Go.Proofs.Ytpdnabhpkdchjaa.P
open Go.RowKit Go.Proofs.YtpdnabhpkdchjaaW.PrintWords Go.Proofs.YtpdnabhpkdchjaaW.PrintLast
set_option linter.unusedVariables false
set_option linter.unusedSimpArgs false
def ctrL (n i : Nat) : S88 := ⟨(i : Int) - 1, if i = n then -1 else (i : Int)⟩
def postL (ap : Int) (i : Nat) : S143 := ⟨ap * ((i : Int) + 1), (i : Int), 1⟩
def lineC (n : Nat) : List S88 := (List.range (n + 1)).map (ctrL n)
def lineP (n : Nat) (ap : Int) : List S143 := (List.range (n + 1)).map (postL ap)
theorem lineC_len (n : Nat) : (lineC n).length = n + 1 := by simp [lineC]
theorem lineP_len (n : Nat) (ap : Int) : (lineP n ap).length = n + 1 := by simp [lineP]
theorem lineC_rd (n i : Nat) (h : i ≤ n) : rd_T88 (lineC n) (i : Int) = ctrL n i := by
  rw [rd88 _ i (by rw [lineC_len]; omega)]
  simp [lineC]
theorem lineP_rd (n : Nat) (ap : Int) (i : Nat) (h : i ≤ n) : rd_T143 (lineP n ap) (i : Int) = postL ap i := by
  have hl : i < (lineP n ap).length := by rw [lineP_len]; omega
  rw [show rd_T143 (lineP n ap) (i : Int) = (lineP n ap)[i] by simp [rd_T143, hl]]
  simp [lineP]
theorem line_ok {n : Nat} (h1 : 1 ≤ n) (h2 : n ≤ 60) : layoutOk (n : Int) (lineC n) = 0 := by
  unfold layoutOk
  rw [if_neg (by omega), if_neg (by omega), if_neg (by rw [lineC_len]; omega), if_pos]
  rw [List.all_eq_true]
  intro x hx
  obtain ⟨i, hi, rfl⟩ := List.mem_map.1 hx
  have hi' := List.mem_range.1 hi
  unfold ctrL ctrOk inB
  dsimp only
  by_cases e : i = n
  · rw [if_pos e]
    simp
    omega
  · rw [if_neg e]
    simp
    omega
theorem line_posts {n : Nat} {ap : Int} (h0 : 0 ≤ ap) (h2 : n ≤ 60) (hb : ap * ((n : Int) + 1) ≤ 1000000) : ∀ k, k ≤ n + 1 → postsTo (lineC n) (lineP n ap) k = true
  | 0, _ => rfl
  | k + 1, hk => by
    have hle : ap * ((k : Int) + 1) ≤ ap * ((n : Int) + 1) := Int.mul_le_mul_of_nonneg_left (by omega) h0
    rw [postsTo, line_posts h0 h2 hb k (by omega), Bool.true_and, postAt, lineP_rd n ap k (by omega)]
    have hp : prevP (lineP n ap) k ≤ ap * ((k : Int) + 1) := by
      cases k with
      | zero => exact Int.mul_nonneg h0 (by omega)
      | succ k =>
        rw [prevP, lineP_rd n ap k (by omega)]
        exact Int.mul_le_mul_of_nonneg_left (by omega) h0
    unfold postL
    dsimp only
    rw [decide_eq_true hp, decide_eq_true (by omega), decide_eq_true (show (0 : Int) ≤ (k : Int) by omega), decide_eq_true (show (k : Int) < ((lineC n).length : Int) by rw [lineC_len]; omega)]
    rfl
theorem line_pass {n : Nat} {ap : Int} {ax : List Int} {fr tt : Int} (h1 : 1 ≤ n) (h2 : n ≤ 60) (h0 : 0 ≤ ap) (hb : ap * ((n : Int) + 1) ≤ 1000000) (ha : axlesTo ax ax.length = true) (hl : ax.length ≤ 200) (f0 : 0 ≤ fr) (f1 : fr ≤ tt) (f2 : tt ≤ 1000000) :
    passing (n : Int) (lineC n) (lineP n ap) ax fr tt = trainEvs (lineP n ap) ax fr tt := by
  rw [passing, if_pos]
  rw [passOk, decide_eq_true (line_ok h1 h2), lineP_len, line_posts h0 h2 hb _ (Nat.le_refl _), ha, decide_eq_true (show n + 1 ≤ 120 by omega), decide_eq_true hl, decide_eq_true f0, decide_eq_true (show fr ≤ 1000000 by omega), decide_eq_true f1, decide_eq_true f2]
  rfl
def cntE (es : List S56) (c : Int) : Nat := es.countP (fun e => e.f1 == c)
theorem cntE_snoc (es : List S56) (e : S56) (c : Int) : cntE (es ++ [e]) c = cntE es c + if e.f1 = c then 1 else 0 := by
  unfold cntE
  rw [List.countP_append, List.countP_singleton]
  by_cases h : e.f1 = c <;> simp [h]
def LineE (n : Nat) (e : S56) : Prop := e.f0 = 1 ∧ e.f2 = 1 ∧ ∃ c : Nat, c ≤ n ∧ e.f1 = (c : Int)
theorem lineE_ok {n : Nat} {e : S56} (h1 : 1 ≤ n) (h2 : n ≤ 60) (h : LineE n e) : eventOk (n : Int) (lineC n) e.f0 e.f1 e.f2 = true := by
  obtain ⟨a, b, c, hc, d⟩ := h
  rw [a, b, d]
  exact ok12 (line_ok h1 h2) (.inl rfl) (by omega) (by rw [lineC_len]; omega) (.inl rfl)
theorem line_truth {n : Nat} {es : List S56} (h1 : 1 ≤ n) (h2 : n ≤ 60) (hes : ∀ e ∈ es, LineE n e) (hl : es.length ≤ 100000) : ∀ k, k ≤ es.length →
    (∀ j : Nat, j < n → rd (truthAt (n : Int) (lineC n) es k) (j : Int) = (cntE (es.take k) (j : Int) : Int) - (cntE (es.take k) ((j + 1 : Nat) : Int) : Int)) ∧ ∀ j : Nat, -(k : Int) ≤ rd (truthAt (n : Int) (lineC n) es k) (j : Int) ∧ rd (truthAt (n : Int) (lineC n) es k) (j : Int) ≤ (k : Int)
  | 0, _ => by
    have h0 : ∀ j : Nat, rd (truthAt (n : Int) (lineC n) es 0) (j : Int) = 0 := by
      intro j
      unfold truthAt row0 rd
      rw [List.take_zero, List.foldl_nil, Int.toNat_natCast, List.getD_eq_getElem?_getD, List.getElem?_replicate]
      split <;> rfl
    refine ⟨fun j hj => ?_, fun j => ?_⟩
    · rw [h0]; simp [cntE]
    · rw [h0]; omega
  | k + 1, hk => by
    obtain ⟨ih1, ih2⟩ := line_truth h1 h2 hes hl k (by omega)
    have hkl : k < es.length := by omega
    have he := hes _ (List.getElem_mem hkl)
    have hok := lineE_ok h1 h2 he
    rw [truthAt_succ hkl]
    have hrow := truthAt_length (n : Int) (lineC n) es k
    obtain ⟨a, b, c, hc, d⟩ := he
    have hp : isPass (n : Int) (lineC n) es[k] = true := by rw [isPass, hok, a]; rfl
    rw [tstep, if_pos hp, d, b, lineC_rd n c hc]
    have hrd := axle_rd (ctrL n c) 1 (truthAt (n : Int) (lineC n) es k) (.inl rfl) (by rw [hrow]; unfold ctrL; dsimp only; omega) (by rw [hrow]; unfold ctrL; dsimp only; split <;> omega) (by unfold ctrL; dsimp only; split <;> omega) (fun j => by have := ih2 j; omega) (by unfold ctrL; dsimp only; omega) (by unfold ctrL; dsimp only; split <;> omega)
    rw [List.take_succ_eq_append_getElem hkl]
    refine ⟨fun j hj => ?_, fun j => ?_⟩
    · rw [hrd j, cntE_snoc, cntE_snoc, d, if_neg (by decide), if_neg (by decide)]
      have h := ih1 j hj
      unfold mvAt ctrL
      dsimp only
      by_cases q1 : c = j + 1
      · subst q1
        rw [if_pos (by omega), if_neg (by omega), if_pos (by omega)]
        omega
      · rw [if_neg (by omega)]
        by_cases q2 : c = j
        · subst q2
          rw [if_neg (show ¬ c = n by omega), if_pos rfl, if_pos rfl, if_neg (by omega)]
          omega
        · rw [if_neg (by split <;> omega), if_neg (by omega), if_neg (by omega)]
          omega
    · rw [hrd j]
      have h := ih2 j
      unfold mvAt
      split
      · omega
      · split <;> omega
theorem train_line {n : Nat} {ap : Int} {ax : List Int} {fr tt : Int} : ∀ e ∈ trainEvs (lineP n ap) ax fr tt, LineE n e := by
  intro e he
  obtain ⟨x, hx, rfl⟩ := List.mem_map.1 he
  obtain ⟨i, k, hi, hk, e2, -⟩ := mem_mets.1 (mem_sortM.1 hx)
  rw [lineP_len] at hk
  have h2 : x.f2 = (k : Int) := by rw [e2]
  unfold evOf LineE
  dsimp only
  rw [h2, lineP_rd n ap k (by omega)]
  exact ⟨rfl, rfl, k, by omega, rfl⟩
theorem train_cnt {n : Nat} {ap : Int} {ax : List Int} {fr tt : Int} (m : Nat) (c : Nat) : cntE ((trainEvs (lineP n ap) ax fr tt).take m) (c : Int) = atPost ((sortM (mets (lineP n ap) ax fr tt)).take m) (c : Int) := by
  unfold trainEvs cntE atPost
  rw [← List.map_take, List.countP_map]
  refine List.countP_congr (fun x hx => ?_)
  obtain ⟨i, k, hi, hk, e2, -⟩ := mem_mets.1 (mem_sortM.1 (List.mem_of_mem_take hx))
  rw [lineP_len] at hk
  have h2 : x.f2 = (k : Int) := by rw [e2]
  simp only [Function.comp, evOf, h2]
  rw [lineP_rd n ap k (by omega)]
  exact Iff.rfl
section
variable {n : Nat} {ap : Int} {ax : List Int} {fr tt : Int}
theorem train_len : (trainEvs (lineP n ap) ax fr tt).length ≤ ax.length * (n + 1) := by
  rw [trainEvs, List.length_map, sortM_len]
  have := metTo_len (lineP n ap) ax fr tt ax.length
  rw [lineP_len] at this
  exact this
theorem train_hon (h1 : 1 ≤ n) (h2 : n ≤ 60) (h0 : 0 < ap) (hf : ∀ i : Nat, i < ax.length → fr < ap + rd ax (i : Int)) (hl : ax.length * (n + 1) ≤ 2000) : HonP (n : Int) (lineC n) (trainEvs (lineP n ap) ax fr tt) := by
  have hlen := train_len (n := n) (ap := ap) (ax := ax) (fr := fr) (tt := tt)
  have ht := line_truth (n := n) (es := trainEvs (lineP n ap) ax fr tt) h1 h2 train_line (by omega)
  intro k hk
  have hmem := List.getElem_mem hk
  have he := train_line _ hmem
  refine ⟨fun h5 => ?_, nonneg_of (fun j hj => ?_)⟩
  · rw [rd56 _ k hk, he.1] at h5
    omega
  · rw [truthAt_length] at hj
    have hj' : j < n := by omega
    rw [(ht (k + 1) (by omega)).1 j hj', train_cnt, train_cnt]
    have := atPost_mono (ps := lineP n ap) (ax := ax) (fr := fr) (tt := tt) (k + 1) j (by rw [lineP_len]; omega) (by rw [lineP_rd n ap j (by omega), lineP_rd n ap (j + 1) (by omega)]; unfold postL; dsimp only; exact Int.mul_lt_mul_of_pos_left (by omega) h0) (fun i hi => by
      rw [lineP_rd n ap j (by omega)]
      unfold postL
      dsimp only
      have h3 := hf i hi
      have h4 : ap * 1 ≤ ap * ((j : Int) + 1) := Int.mul_le_mul_of_nonneg_left (by omega) (by omega)
      omega)
    omega
def between (ax : List Int) (mid lo hi : Int) : Nat := ax.countP (fun y => decide (mid - y ≥ lo) && decide (mid - y < hi))
theorem range_countP (l : List Int) (p : Int → Bool) : (List.range l.length).countP (fun i : Nat => p (rd l (i : Int))) = l.countP p := by
  have e : l = (List.range l.length).map (fun i : Nat => rd l (i : Int)) := by
    apply List.ext_getElem (by simp)
    intro i h1 h2
    simp [rd, h1]
  conv => rhs; rw [e, List.countP_map]
  rfl
theorem train_secs (h1 : 1 ≤ n) (h2 : n ≤ 60) (h0 : 0 < ap) (hf : ∀ i : Nat, i < ax.length → fr < ap + rd ax (i : Int)) (hl : ax.length * (n + 1) ≤ 2000) (j : Nat) (hj : j < n) :
    (rd_T50 (stAt (n : Int) (lineC n) (trainEvs (lineP n ap) ax fr tt) (trainEvs (lineP n ap) ax fr tt).length).f1 (j : Int)).f1 = (between ax tt (ap * ((j : Int) + 1)) (ap * ((j : Int) + 2)) : Int) ∧
    ((rd_T50 (stAt (n : Int) (lineC n) (trainEvs (lineP n ap) ax fr tt) (trainEvs (lineP n ap) ax fr tt).length).f1 (j : Int)).f0 = 0 ↔ between ax tt (ap * ((j : Int) + 1)) (ap * ((j : Int) + 2)) = 0) := by
  have hlen := train_len (n := n) (ap := ap) (ax := ax) (fr := fr) (tt := tt)
  have hlo := line_ok h1 h2
  have hok : ∀ e ∈ trainEvs (lineP n ap) ax fr tt, eventOk (n : Int) (lineC n) e.f0 e.f1 e.f2 = true := fun e he => lineE_ok h1 h2 (train_line e he)
  have hju := just_at hlo (by omega) hok (fun e he => (train_line e he).1) (train_hon (tt := tt) h1 h2 h0 hf hl) (trainEvs (lineP n ap) ax fr tt).length (Nat.le_refl _)
  have ht := (line_truth (n := n) (es := trainEvs (lineP n ap) ax fr tt) h1 h2 train_line (by omega) _ (Nat.le_refl _)).1 j hj
  have hst := stAt_ok hlo (trainEvs (lineP n ap) ax fr tt) (trainEvs (lineP n ap) ax fr tt).length
  obtain ⟨-, -, hsn, -, hsec⟩ := stateOk_of hst
  have hj' : j < (stAt (n : Int) (lineC n) (trainEvs (lineP n ap) ax fr tt) (trainEvs (lineP n ap) ax fr tt).length).f1.length := by omega
  have htold := secOk_told (hsec j hj')
  obtain ⟨e1, e2, e3⟩ := hju.sec j hj'
  have hc : rd (truthAt (n : Int) (lineC n) (trainEvs (lineP n ap) ax fr tt) (trainEvs (lineP n ap) ax fr tt).length) (j : Int) = (between ax tt (ap * ((j : Int) + 1)) (ap * ((j : Int) + 2)) : Int) := by
    rw [ht, train_cnt, train_cnt]
    have hm : (sortM (mets (lineP n ap) ax fr tt)).take (trainEvs (lineP n ap) ax fr tt).length = sortM (mets (lineP n ap) ax fr tt) := by
      rw [trainEvs, List.length_map]
      exact List.take_length
    have hg : ∀ c : Nat, c ≤ n → ∀ i : Nat, i < ax.length → fr < (rd_T143 (lineP n ap) (c : Int)).f0 + rd ax (i : Int) := by
      intro c hc i hi
      rw [lineP_rd n ap c hc]
      unfold postL
      dsimp only
      have h3 := hf i hi
      have h4 : ap * 1 ≤ ap * ((c : Int) + 1) := Int.mul_le_mul_of_nonneg_left (by omega) (by omega)
      omega
    have hmul : ap * ((j : Int) + 1) < ap * ((j : Int) + 2) := Int.mul_lt_mul_of_pos_left (by omega) h0
    rw [hm, atPost_all j (by rw [lineP_len]; omega) (hg j (by omega)), atPost_all (j + 1) (by rw [lineP_len]; omega) (hg (j + 1) (by omega)), lineP_rd n ap j (by omega), lineP_rd n ap (j + 1) (by omega)]
    unfold postL
    dsimp only
    rw [show ((j + 1 : Nat) : Int) + 1 = (j : Int) + 2 by omega]
    generalize ap * ((j : Int) + 1) = lo at hmul
    generalize ap * ((j : Int) + 2) = hi at hmul
    rw [range_countP ax (fun y => decide (lo + y ≤ tt)), range_countP ax (fun y => decide (hi + y ≤ tt)), countP_diff _ _ _ (fun y _ hy => by rw [decide_eq_true_eq] at hy ⊢; omega)]
    unfold between
    congr 1
    refine List.countP_congr (fun y _ => ?_)
    simp only [Bool.and_eq_true, Bool.not_eq_true', decide_eq_true_eq, decide_eq_false_iff_not]
    omega
  rw [hju.dead] at htold
  have hdd := anyFalse (lineC n) (lineC n).length (j : Int)
  rw [← hc, ← e1]
  refine ⟨e1.symm ▸ rfl, ?_⟩
  have hz : between ax tt (ap * ((j : Int) + 1)) (ap * ((j : Int) + 2)) = 0 ↔ (rd_T50 (stAt (n : Int) (lineC n) (trainEvs (lineP n ap) ax fr tt) (trainEvs (lineP n ap) ax fr tt).length).f1 (j : Int)).f1 = 0 := by rw [e1, hc]; omega
  rw [htold, hz]
  generalize rd_T50 (stAt (n : Int) (lineC n) (trainEvs (lineP n ap) ax fr tt) (trainEvs (lineP n ap) ax fr tt).length).f1 (j : Int) = x at e2 e3 ⊢
  unfold toldC
  rw [hdd, e2, e3]
  by_cases hq : x.f1 = 0 <;> simp [hq]
end
end Go.Proofs.Ytpdnabhpkdchjaa.P
namespace Go.Proofs.Ytpdnabhpkdchjaa.P
open Go.RowKit Go.Proofs.YtpdnabhpkdchjaaW.PrintWords Go.Proofs.YtpdnabhpkdchjaaW.PrintLast Go.Proofs.YtpdnabhpkdchjaaW.PrintMore
attribute [local go_sem] max2_int min2_int max_two min_two max_three min_three max_four min_four
set_option linter.unusedVariables false
set_option linter.unusedSimpArgs false
def laws_wByte.f (l0:List Int) (a1:Int):Option (Int):=if (l0.length:Int)=0 then (some 0) else (if 0≤(Int.tmod a1 (l0.length:Int)) then (if (Int.tmod a1 (l0.length:Int))<(l0.length:Int) then (some (wrap64 (rd l0 (Int.tmod a1 (l0.length:Int))))) else (none)) else (none))
set_option maxHeartbeats 8000000 in
set_option maxRecDepth 100000 in
theorem laws_wByte.calls (A0:Option Addr) (c0:Nat) (l0:List Int) (a1:Int) (r:Int) (w:World) (hr0:Kd.C (Kd.int .u8) w A0 l0.length l0) (hc0:l0.length≤c0) (h:laws_wByte.f l0 a1=some r) :
  Calls Try.prog 64 #[.slice A0 l0.length c0,.int .i64 a1] w fun e w'=>e=.returned (.int .i64 r)∧Drawn0 w w':=by
 have HR0:=Aside0.mk hr0
 have HC0:=Aside0.mk hc0
 clear hr0 hc0
 have H:(if (l0.length:Int)=0 then (some 0) else (if 0≤(Int.tmod a1 (l0.length:Int)) then (if (Int.tmod a1 (l0.length:Int))<(l0.length:Int) then (some (wrap64 (rd l0 (Int.tmod a1 (l0.length:Int))))) else (none)) else (none)))=some r:=h
 clear h
 by_cases c3:(l0.length:Int)=0
 ·rw [if_pos c3] at H
  have c3b0:((l0.length:Int)==0)=true:=beq_iff_eq.mpr c3
  have c3b1:((l0.length:Int) != 0)=false:=bne_eq_false_iff_eq.mpr c3
  clear c3
  obtain rfl:=Option.some.inj H
  go_enter Try.func64,Try.ntmps64
  go_wp2
  go_ret
  exact ⟨by first|rfl|(simp;done)|(simp [*];done),by repeat (first|exact Drawn0.refl _|apply Drawn0.step)⟩
 rw [if_neg c3] at H
 have c3b0:((l0.length:Int)==0)=false:=beq_eq_false_iff_ne.mpr c3
 have c3b1:((l0.length:Int) != 0)=true:=bne_iff_ne.mpr c3
 have c3b2:¬ (l0=[]):=fun h_=>c3 (by rw [h_];rfl)
 obtain ⟨ji4,hji4⟩:∃ j_:Int,(Int.tmod a1 (l0.length:Int))=j_:=⟨_,rfl⟩
 replace H:(if 0≤(ji4) then (if (ji4)<(l0.length:Int) then (some (wrap64 (rd l0 (ji4)))) else (none)) else (none))=some r:=by first|(rw [hji4] at H;exact H)|(simp only [hji4] at H ⊢;exact H)
 by_cases c5:0≤(ji4)
 ·rw [if_pos c5] at H
  have c5b0:decide (0≤(ji4))=true:=decide_eq_true c5
  clear c5
  by_cases c6:(ji4)<(l0.length:Int)
  ·rw [if_pos c6] at H
   have c6b0:decide ((ji4)<(l0.length:Int))=true:=decide_eq_true c6
   clear c6
   obtain rfl:=Option.some.inj H
   have p902:0≤((ji4):Int):=of_decide_eq_true (by first|(with_reducible assumption)|assumption)
   have q902:(ji4)<(l0.length:Int):=of_decide_eq_true (by first|(with_reducible assumption)|assumption)
   obtain ⟨ad902,e902,hx902_0⟩:=Kd.at_int HR0.out (ji4) p902 q902
   cases e902
   replace p902:=eq_true p902
   replace q902:=eq_true q902
   go_enter Try.func64,Try.ntmps64
   go_wp2
   go_ret
   exact ⟨by first|rfl|(simp;done)|(simp only [← hji4] <;> (first|rfl|simp))|(simp [*];done),by repeat (first|exact Drawn0.refl _|apply Drawn0.step)⟩
  rw [if_neg c6] at H
  exact absurd H (by simp)
 rw [if_neg c5] at H
 exact absurd H (by simp)
end Go.Proofs.Ytpdnabhpkdchjaa.P
namespace Go.Proofs.Ytpdnabhpkdchjaa.P
open Go.RowKit Go.Proofs.YtpdnabhpkdchjaaW.PrintWords Go.Proofs.YtpdnabhpkdchjaaW.PrintLast
set_option linter.unusedVariables false
def wB (code : List Int) (i : Int) : Int := (laws_wByte.f code i).getD 0
theorem wB_all {code : List Int} (hb : ∀ x ∈ code, 0 ≤ x ∧ x < 256) {i : Int} (hi : 0 ≤ i) : laws_wByte.f code i = some (wB code i) ∧ 0 ≤ wB code i ∧ wB code i < 256 := by
  unfold wB laws_wByte.f
  by_cases h : (code.length : Int) = 0
  · rw [if_pos h]; exact ⟨rfl, by decide, by decide⟩
  · have ht := tmod_in (x := i) (m := (code.length : Int)) hi (by omega)
    rw [if_neg h, if_pos ht.1, if_pos ht.2]
    have hm : rd code (Int.tmod i (code.length : Int)) ∈ code := by
      have hl : (Int.tmod i (code.length : Int)).toNat < code.length := by omega
      rw [rd, List.getD_eq_getElem?_getD, List.getElem?_eq_getElem hl, Option.getD_some]
      exact List.getElem_mem hl
    have hx := hb _ hm
    rw [wrap_id (by omega) (by omega)]
    exact ⟨rfl, hx.1, hx.2⟩
theorem wB_in {code : List Int} (hb : ∀ x ∈ code, 0 ≤ x ∧ x < 256) {i : Int} (hi : 0 ≤ i) : 0 ≤ wB code i ∧ wB code i < 256 := (wB_all hb hi).2
theorem wB_is {M : Option Addr} {mc : Nat} {code : List Int} {i : Int} (w : World) (hr : Kd.C (Kd.int .u8) w M code.length code) (hc : code.length ≤ mc) (hb : ∀ x ∈ code, 0 ≤ x ∧ x < 256) (hi : 0 ≤ i) :
    Calls Try.prog 64 #[.slice M code.length mc, .int .i64 i] w fun e w' => e = .returned (.int .i64 (wB code i)) ∧ Below w.heap.size w w' :=
  (laws_wByte.calls M mc code i _ w hr hc (wB_all hb hi).1).mono fun e w' ⟨he, hd⟩ => ⟨he, hd.below⟩
end Go.Proofs.Ytpdnabhpkdchjaa.P
namespace Go.Proofs.Ytpdnabhpkdchjaa.P
open Go.RowKit Go.Proofs.YtpdnabhpkdchjaaW.PrintWords Go.Proofs.YtpdnabhpkdchjaaW.PrintLast
set_option linter.unusedVariables false
set_option linter.unusedSimpArgs false
theorem rowTo_full (ps : List S143) (a i fr tt : Int) : ∀ m : Nat, (∀ k : Nat, k < m → fr < (rd_T143 ps (k : Int)).f0 + a ∧ (rd_T143 ps (k : Int)).f0 + a ≤ tt) → (rowTo ps a i fr tt m).length = m
  | 0, _ => rfl
  | m + 1, h => by rw [rowTo, List.length_append, rowTo_full ps a i fr tt m (fun k hk => h k (by omega)), metAt, if_pos (h m (by omega))]; rfl
theorem metTo_full (ps : List S143) (ax : List Int) (fr tt : Int) : ∀ m : Nat, (∀ i k : Nat, i < m → k < ps.length → fr < (rd_T143 ps (k : Int)).f0 + rd ax (i : Int) ∧ (rd_T143 ps (k : Int)).f0 + rd ax (i : Int) ≤ tt) → (metTo ps ax fr tt m).length = m * ps.length
  | 0, _ => by simp [metTo]
  | m + 1, h => by
    rw [metTo, List.length_append, metTo_full ps ax fr tt m (fun i k hi hk => h i k (by omega) hk), rowTo_full _ _ _ _ _ _ (fun k hk => h m k (by omega) hk), Nat.succ_mul]
def tAt (code : List Int) (K : Nat) : Nat → Int
  | 0 => 0
  | i + 1 => tAt code K i + (1 + Int.tmod (wB code (((K - i : Nat) : Int) + 3)) 20)
def axT (code : List Int) (K i : Nat) : List Int := (List.range i).map (tAt code K)
theorem axT_succ (code : List Int) (K i : Nat) : axT code K (i + 1) = axT code K i ++ [tAt code K i] := by
  rw [axT, List.range_succ, List.map_append]; rfl
theorem axT_len (code : List Int) (K i : Nat) : (axT code K i).length = i := by simp [axT]
theorem axT_rd (code : List Int) (K i j : Nat) (h : j < i) : rd (axT code K i) (j : Int) = tAt code K j := by
  simp [rd, axT, h]
theorem post_le {n : Nat} {ap : Int} (h0 : 0 < ap) (k : Nat) (hk : k ≤ n) : ap ≤ ap * ((k : Int) + 1) ∧ ap * ((k : Int) + 1) ≤ ap * ((n : Int) + 1) := by
  have h1 : ap * 1 ≤ ap * ((k : Int) + 1) := Int.mul_le_mul_of_nonneg_left (by omega) (by omega)
  have h2 : ap * ((k : Int) + 1) ≤ ap * ((n : Int) + 1) := Int.mul_le_mul_of_nonneg_left (by omega) (by omega)
  omega
section
variable {code : List Int} (hb : ∀ x ∈ code, 0 ≤ x ∧ x < 256)
include hb
theorem gap_in (K i : Nat) : 1 ≤ 1 + Int.tmod (wB code (((K - i : Nat) : Int) + 3)) 20 ∧ 1 + Int.tmod (wB code (((K - i : Nat) : Int) + 3)) 20 ≤ 20 := by
  have h := tmod_in (m := 20) (wB_in (i := ((K - i : Nat) : Int) + 3) hb (by omega)).1 (by decide)
  omega
theorem tAt_in (K : Nat) : ∀ i : Nat, 0 ≤ tAt code K i ∧ tAt code K i ≤ 20 * (i : Int)
  | 0 => ⟨Int.le_refl _, by simp [tAt]⟩
  | i + 1 => by
    have h := tAt_in K i
    have h2 := gap_in hb K i
    rw [tAt]
    omega
theorem tAt_mono (K : Nat) (i : Nat) : ∀ d : Nat, tAt code K i ≤ tAt code K (i + d)
  | 0 => Int.le_refl _
  | d + 1 => by
    have h := tAt_mono K i d
    have h2 := gap_in hb K (i + d)
    rw [show i + (d + 1) = (i + d) + 1 from rfl, tAt]
    omega
theorem axT_ok (K : Nat) (hK : K ≤ 1000) : ∀ i, i ≤ K → axlesTo (axT code K K) i = true
  | 0, _ => rfl
  | i + 1, hi => by
    rw [axlesTo, axT_ok K hK i (by omega), Bool.true_and, axleAt, axT_rd code K K i (by omega)]
    have h := tAt_in hb K i
    have hp : prevA (axT code K K) i ≤ tAt code K i := by
      cases i with
      | zero => exact Int.le_refl _
      | succ i => rw [prevA, axT_rd code K K i (by omega)]; exact tAt_mono hb K i 1
    rw [decide_eq_true hp, decide_eq_true (by omega)]
    rfl
def endT (n : Nat) (ap : Int) (code : List Int) (K : Nat) : Int := ap * ((n : Int) + 1) + tAt code K K
theorem all_len {n : Nat} {ap : Int} (h0 : 0 < ap) (K : Nat) : (trainEvs (lineP n ap) (axT code K K) 0 (endT n ap code K)).length = K * (n + 1) := by
  rw [trainEvs, List.length_map, sortM_len, mets, axT_len, metTo_full, lineP_len]
  intro i k hi hk
  rw [lineP_len] at hk
  rw [lineP_rd n ap k (by omega), axT_rd code K K i hi]
  unfold postL endT
  dsimp only
  have h1 := post_le h0 k (show k ≤ n by omega)
  have h2 := tAt_in hb K i
  have h3 := tAt_mono hb K i (K - i)
  rw [show i + (K - i) = K by omega] at h3
  omega
theorem all_gone {n : Nat} {ap : Int} (h0 : 0 < ap) (K j : Nat) (hj : j < n) : between (axT code K K) (endT n ap code K) (ap * ((j : Int) + 1)) (ap * ((j : Int) + 2)) = 0 := by
  unfold between
  rw [List.countP_eq_zero]
  intro y hy
  obtain ⟨i, hi, rfl⟩ := List.mem_map.1 hy
  have hi' := List.mem_range.1 hi
  have h1 := post_le h0 (j + 1) (show j + 1 ≤ n by omega)
  rw [show ((j + 1 : Nat) : Int) + 1 = (j : Int) + 2 by omega] at h1
  have h3 := tAt_mono hb K i (K - i)
  rw [show i + (K - i) = K by omega] at h3
  unfold endT
  rw [Bool.and_eq_true, decide_eq_true_eq, decide_eq_true_eq]
  omega
end
end Go.Proofs.Ytpdnabhpkdchjaa.P
namespace Go.Proofs.Ytpdnabhpkdchjaa.P
open Go.RowKit Go.Proofs.YtpdnabhpkdchjaaW.PrintWords Go.Proofs.YtpdnabhpkdchjaaW.PrintLast
set_option linter.unusedVariables false
set_option linter.unusedSimpArgs false
theorem w_small {x : Int} (h0 : -1000000 ≤ x) (h1 : x ≤ 1000000) : wrap64 x = x := wrap_id (by omega) (by omega)
theorem one_mod {x m : Int} (hx : 0 ≤ x) (hm : 0 < m) (hb : m ≤ 1000) : wrap64 (1 + Int.tmod x m) = 1 + Int.tmod x m ∧ 1 ≤ 1 + Int.tmod x m ∧ 1 + Int.tmod x m ≤ m := by
  have h := tmod_in hx hm
  exact ⟨w_small (by omega) (by omega), by omega, by omega⟩
theorem am_in {n : Nat} {ap : Int} (hn : n ≤ 8) (h1 : 1 ≤ ap) (h2 : ap ≤ 90) : 1 ≤ ap * ((n : Int) + 1) ∧ ap * ((n : Int) + 1) ≤ 810 := by
  have e1 : 1 * ((n : Int) + 1) ≤ ap * ((n : Int) + 1) := Int.mul_le_mul_of_nonneg_right h1 (by omega)
  have e2 : ap * ((n : Int) + 1) ≤ 90 * ((n : Int) + 1) := Int.mul_le_mul_of_nonneg_right h2 (by omega)
  omega
theorem tr_sums {am tK b3 b4 : Int} (h1 : 1 ≤ am ∧ am ≤ 810) (h2 : 0 ≤ tK ∧ tK ≤ 600) (h3 : 0 ≤ b3 ∧ b3 < 256) (h4 : 0 ≤ b4 ∧ b4 < 256) :
    wrap64 (am + tK) = am + tK ∧ wrap64 (256 * b4) = 256 * b4 ∧ wrap64 (b3 + 256 * b4) = b3 + 256 * b4 ∧ wrap64 (am + tK + 1) = am + tK + 1 ∧ (0 ≤ Int.tmod (b3 + 256 * b4) (am + tK + 1) ∧ Int.tmod (b3 + 256 * b4) (am + tK + 1) ≤ am + tK) ∧ am + tK + 1 ≠ 0 := by
  have h := tmod_in (x := b3 + 256 * b4) (m := am + tK + 1) (by omega) (by omega)
  exact ⟨w_small (by omega) (by omega), w_small (by omega) (by omega), w_small (by omega) (by omega), w_small (by omega) (by omega), ⟨h.1, by omega⟩, by omega⟩
structure TrF (code : List Int) (nn K : Nat) (ap am tK en q4 q34 e1 mid n1 : Int) (lc : List S88) (pc : List S143) (ax : List Int) (ea eb ec : List S56) : Prop where
  s1 : wrap64 (1 + Int.tmod (wB code 0) 8) = (nn : Int)
  s2 : wrap64 (1 + Int.tmod (wB code 1) 90) = ap
  s3 : wrap64 ((nn : Int) + 1) = n1
  s4 : wrap64 (ap * n1) = am
  s5 : wrap64 (am + tK) = en
  s6 : wrap64 (256 * wB code 4) = q4
  s7 : wrap64 (wB code 3 + q4) = q34
  s8 : wrap64 (en + 1) = e1
  s9 : Int.tmod q34 e1 = mid
  s10 : Int.tmod (wB code 2) 31 = (K : Int)
  s11 : wrap64 ((ax.length : Int) * n1) = (ec.length : Int)
  ne : e1 ≠ 0
  n8 : 1 ≤ nn ∧ nn ≤ 8
  a90 : 1 ≤ ap ∧ ap ≤ 90
  k30 : K ≤ 30
  mm : 0 ≤ mid ∧ mid ≤ en ∧ en ≤ 1410
  tk : tK = tAt code K K
  lc_ : lc = lineC nn
  pc_ : pc = lineP nn ap
  ax_ : ax = axT code K K
  len : lc.length = nn + 1 ∧ pc.length = nn + 1 ∧ ax.length = K
  lo : layoutOk (nn : Int) lc = 0
  pa : passing (nn : Int) lc pc ax 0 mid = ea
  pb : passing (nn : Int) lc pc ax mid en = eb
  pc2 : passing (nn : Int) lc pc ax 0 en = ec
  ab : ea ++ eb = ec
  el : ec.length ≤ 270 ∧ ea.length ≤ 270 ∧ eb.length ≤ 270
  ho : honest (nn : Int) lc ec = true
  sa : ∀ j : Nat, j < nn → (rd_T50 (stAt (nn : Int) lc ea ea.length).f1 (j : Int)).f1 = (between ax mid (ap * ((j : Int) + 1)) (ap * ((j : Int) + 2)) : Int) ∧ ((rd_T50 (stAt (nn : Int) lc ea ea.length).f1 (j : Int)).f0 = 0 ↔ between ax mid (ap * ((j : Int) + 1)) (ap * ((j : Int) + 2)) = 0)
  sc : ∀ j : Nat, j < nn → (rd_T50 (stAt (nn : Int) lc ec ec.length).f1 (j : Int)).f0 = 0
theorem tr_facts {code : List Int} (hb : ∀ x ∈ code, 0 ≤ x ∧ x < 256) : ∃ nn K ap am tK en q4 q34 e1 mid n1 lc pc ax ea eb ec, TrF code nn K ap am tK en q4 q34 e1 mid n1 lc pc ax ea eb ec := by
  have m0 := one_mod (m := 8) (wB_in hb (i := 0) (by decide)).1 (by decide) (by decide)
  have m1 := one_mod (m := 90) (wB_in hb (i := 1) (by decide)).1 (by decide) (by decide)
  have m2 := tmod_in (m := 31) (wB_in hb (i := 2) (by decide)).1 (by decide)
  obtain ⟨nn, hnn⟩ : ∃ nn : Nat, (nn : Int) = 1 + Int.tmod (wB code 0) 8 := ⟨(1 + Int.tmod (wB code 0) 8).toNat, by omega⟩
  obtain ⟨ap, hap⟩ : ∃ ap : Int, ap = 1 + Int.tmod (wB code 1) 90 := ⟨_, rfl⟩
  obtain ⟨K, hK⟩ : ∃ K : Nat, (K : Int) = Int.tmod (wB code 2) 31 := ⟨(Int.tmod (wB code 2) 31).toNat, by omega⟩
  rw [← hnn] at m0
  rw [← hap] at m1
  rw [← hK] at m2
  have n8 : 1 ≤ nn ∧ nn ≤ 8 := by omega
  have k30 : K ≤ 30 := by omega
  have hai := am_in (n := nn) (ap := ap) n8.2 m1.2.1 m1.2.2
  have htk := tAt_in hb K K
  have htk2 : 0 ≤ tAt code K K ∧ tAt code K K ≤ 600 := by omega
  have hs := tr_sums hai htk2 (wB_in hb (i := 3) (by decide)) (wB_in hb (i := 4) (by decide))
  obtain ⟨h5, h6, h7, h8, h9, hne⟩ := hs
  have hen : endT nn ap code K = ap * ((nn : Int) + 1) + tAt code K K := rfl
  have hml : 0 ≤ ap * ((nn : Int) + 1) + tAt code K K ∧ ap * ((nn : Int) + 1) + tAt code K K ≤ 1410 := by
    obtain ⟨u1, u2⟩ := hai
    obtain ⟨v1, v2⟩ := htk2
    generalize ap * ((nn : Int) + 1) = x at u1 u2
    generalize tAt code K K = y at v1 v2
    omega
  have hlo := line_ok n8.1 (show nn ≤ 60 by omega)
  have hpas : ∀ fr tt : Int, 0 ≤ fr → fr ≤ tt → tt ≤ 1410 → passing (nn : Int) (lineC nn) (lineP nn ap) (axT code K K) fr tt = trainEvs (lineP nn ap) (axT code K K) fr tt := fun fr tt f0 f1 f2 =>
    line_pass n8.1 (by omega) (by omega) (Int.le_trans hai.2 (by decide)) (by rw [axT_len]; exact axT_ok hb K (by omega) K (Nat.le_refl _)) (by rw [axT_len]; omega) f0 f1 (by omega)
  have hfr : ∀ i : Nat, i < (axT code K K).length → 0 < ap + rd (axT code K K) (i : Int) := fun i hi => by
    rw [axT_len] at hi
    rw [axT_rd code K K i hi]
    have h1 := (tAt_in hb K i).1
    have h2 := m1.2.1
    omega
  have hk9 : K * (nn + 1) ≤ 30 * 9 := Nat.mul_le_mul k30 (by omega)
  have hal := all_len hb (n := nn) (ap := ap) (by omega) K
  rw [hen] at hal
  have hcut := trainEvs_cut (lineP nn ap) (axT code K K) h9.1 h9.2
  have hlen : (trainEvs (lineP nn ap) (axT code K K) 0 (Int.tmod (wB code 3 + 256 * wB code 4) (ap * ((nn : Int) + 1) + tAt code K K + 1))).length + (trainEvs (lineP nn ap) (axT code K K) (Int.tmod (wB code 3 + 256 * wB code 4) (ap * ((nn : Int) + 1) + tAt code K K + 1)) (ap * ((nn : Int) + 1) + tAt code K K)).length = K * (nn + 1) := by rw [← List.length_append, hcut, hal]
  refine ⟨nn, K, ap, ap * ((nn : Int) + 1), tAt code K K, ap * ((nn : Int) + 1) + tAt code K K, 256 * wB code 4, wB code 3 + 256 * wB code 4, ap * ((nn : Int) + 1) + tAt code K K + 1, Int.tmod (wB code 3 + 256 * wB code 4) (ap * ((nn : Int) + 1) + tAt code K K + 1), (nn : Int) + 1, lineC nn, lineP nn ap, axT code K K, _, _, _,
    { s1 := by rw [← hnn]; exact m0.1, s2 := by rw [← hap]; exact m1.1, s3 := w_small (by omega) (by omega), s4 := w_small (by omega) (by omega), s5 := h5, s6 := h6, s7 := h7, s8 := h8, s9 := rfl, s10 := hK.symm, s11 := ?_, ne := hne, n8 := n8, a90 := m1.2, k30 := k30, mm := ⟨h9.1, h9.2, hml.2⟩, tk := rfl, lc_ := rfl, pc_ := rfl, ax_ := rfl,
      len := ⟨lineC_len nn, lineP_len nn ap, axT_len code K K⟩, lo := hlo, pa := hpas _ _ (by omega) h9.1 (Int.le_trans h9.2 hml.2), pb := hpas _ _ h9.1 h9.2 hml.2, pc2 := hpas _ _ (by omega) hml.1 hml.2, ab := hcut, el := ⟨by rw [hal]; exact hk9, ?_, ?_⟩, ho := ?_, sa := ?_, sc := ?_ }⟩
  · rw [axT_len, hal, show (nn : Int) + 1 = ((nn + 1 : Nat) : Int) by omega, ← Int.natCast_mul]
    generalize K * (nn + 1) = q at hk9
    exact w_small (by omega) (by omega)
  · exact Nat.le_trans (Nat.le_trans (Nat.le_add_right _ _) (Nat.le_of_eq hlen)) hk9
  · exact Nat.le_trans (Nat.le_trans (Nat.le_add_left _ _) (Nat.le_of_eq hlen)) hk9
  · exact honest_of hlo (by rw [hal]; exact Nat.le_trans hk9 (by decide)) (fun e he => lineE_ok n8.1 (by omega) (train_line e he)) (train_hon n8.1 (by omega) (by omega) hfr (by rw [axT_len]; exact Nat.le_trans hk9 (by decide)))
  · exact fun j hj => train_secs n8.1 (by omega) (by omega) hfr (by rw [axT_len]; exact Nat.le_trans hk9 (by decide)) j hj
  · intro j hj
    have h := (train_secs (n := nn) (ap := ap) (ax := axT code K K) (fr := 0) (tt := ap * ((nn : Int) + 1) + tAt code K K) n8.1 (by omega) (by omega) hfr (by rw [axT_len]; exact Nat.le_trans hk9 (by decide)) j hj).2
    exact h.2 (all_gone hb (n := nn) (ap := ap) (by omega) K j hj)
end Go.Proofs.Ytpdnabhpkdchjaa.P
namespace Go.Proofs.Ytpdnabhpkdchjaa.P
open Go.RowKit Go.Proofs.YtpdnabhpkdchjaaW.PrintWords Go.Proofs.YtpdnabhpkdchjaaW.PrintLast Go.Proofs.YtpdnabhpkdchjaaW.PrintMore
set_option linter.unusedVariables false
section
variable {n : Int} {A : Option Addr} {c : Nat} {l : List S88} {w : World}
theorem lay_is (hr : Kd.C k88 w A l.length l) (hc : l.length ≤ c) : Calls Try.prog 25 #[.agg #[.int .i64 n, .slice A l.length c]] w fun e w' => e = .returned (.int .i64 (layoutOk n l)) ∧ Below w.heap.size w w' :=
  impl_LayoutOk.calls n A c l _ w hr hc rfl
theorem ev_is (op of dir : Int) (hr : Kd.C k88 w A l.length l) (hc : l.length ≤ c) : Calls Try.prog 36 #[.agg #[.int .i64 n, .slice A l.length c], .agg #[.int .i64 op, .int .i64 of, .int .i64 dir]] w fun e w' => e = .returned (.bool (eventOk n l op of dir)) ∧ Below w.heap.size w w' := by
  obtain ⟨k, h⟩ := (implEventOk_ev n l op of dir).rounds
  exact impl_EventOk.calls k n A c l op of dir _ w hr hc h
theorem ev_at {b : Bool} (op of dir : Int) (hb : eventOk n l op of dir = b) (hr : Kd.C k88 w A l.length l) (hc : l.length ≤ c) : Calls Try.prog 36 #[.agg #[.int .i64 n, .slice A l.length c], .agg #[.int .i64 op, .int .i64 of, .int .i64 dir]] w fun e w' => e = .returned (.bool b) ∧ Below w.heap.size w w' := hb ▸ ev_is op of dir hr hc
theorem lay_at {k : Int} (hk : layoutOk n l = k) (hr : Kd.C k88 w A l.length l) (hc : l.length ≤ c) : Calls Try.prog 25 #[.agg #[.int .i64 n, .slice A l.length c]] w fun e w' => e = .returned (.int .i64 k) ∧ Below w.heap.size w w' := hk ▸ lay_is hr hc
variable {A1 : Option Addr} {c1 : Nat} {es : List S56}
theorem truth_is (hr : Kd.C k88 w A l.length l) (hc : l.length ≤ c) (hr1 : Kd.C k56 w A1 es.length es) (hc1 : es.length ≤ c1) : Calls Try.prog 54 #[.agg #[.int .i64 n, .slice A l.length c], .slice A1 es.length c1] w fun e w' => ∃ v0_ : Value, e = .returned (v0_) ∧ Kd.S (Kd.slice 3 (Kd.int .i64)) 59 w' w.heap.size (fun _ => True) v0_ (truth n l es) ∧ Below w.heap.size w w' := by
  obtain ⟨k, h⟩ := (implTruth_ev n l es).rounds
  exact impl_Truth.calls k n A c l A1 c1 es _ w hr hc hr1 hc1 h
end
end Go.Proofs.Ytpdnabhpkdchjaa.P
namespace Go.Proofs.Ytpdnabhpkdchjaa.P
open Go Go.RowKit Go.Proofs.YtpdnabhpkdchjaaW.PrintWords Go.Proofs.YtpdnabhpkdchjaaW.PrintLast Go.Proofs.YtpdnabhpkdchjaaW.PrintMore
set_option linter.unusedVariables false
def upto (n k : Nat) : Array Bool := (List.replicate k true ++ List.replicate (n - k) false).toArray
section
variable {P : Program} {md : Region.Mode} {ops : Array Oper} {T : Bool × List (List Nat × List Nat)} {B : List Nat} {Q : Exit → Act → World → Prop} {S : World → Prop} {ds : List Nat} {n k fuel : Nat} {N : Option Tmp} {oi : Oper} {v : Value} {a a' : Act} {w : World} {op : Op} {ty : TypeId} {pos : String} {af : Array Edge} {gu : Option (Nat × Bool)}
theorem wanted_none (hg : oi.guard = none) (y : Nat → Option Bool) : Region.wanted oi y = true := by unfold Region.wanted; rw [hg]
theorem wanted_yes {j : Nat} {u b : Bool} {y : Nat → Option Bool} (hg : oi.guard = some (j, u)) (hb : y j = some b) (he : (b == u) = true) : Region.wanted oi y = true := by
  unfold Region.wanted
  rw [hg]
  dsimp only
  rw [hb]
  cases b <;> cases u <;> first | rfl | cases he
theorem wanted_no {j : Nat} {u b : Bool} {y : Nat → Option Bool} (hg : oi.guard = some (j, u)) (hb : y j = some b) (he : (b == u) = false) : Region.wanted oi y = false := by
  unfold Region.wanted
  rw [hg]
  dsimp only
  rw [hb]
  cases b <;> cases u <;> first | rfl | cases he
theorem upto_zero (n : Nat) : Array.replicate n false = upto n 0 := by simp [upto]
theorem startK {id : Nat} (n : Nat) (hm : P.follows .mixedOrders = true) (hn : ops.size = n) (hS : S w.drew) (h : S w.drew → wpAnyLast P .any ops Q S ds n (upto n 0) a w.drew) : (Code.region id ops true).wp P Q a w := start_ (upto n 0) hm hn (upto_zero n) hS h
theorem take0 {k' : Nat} (hk : k + 1 = k') (hi : ops[k]? = some ⟨N, op, ty, pos, af, none⟩) (hT : rtab md ops = T) (hB : waitsOk T.2 B = true) (hc : takeW T B ds (upto n k).toList (upto n k').toList k = true) (hQ : ∀ c a w, Q (.panic c) (a.put N v) w → Q (.panic c) a w) (hS : S w) (hy : ∀ w, S w → (execOp a.eval ⟨N, op, ty, pos, af, none⟩).run P w = .ok (.value v) w) (ha : a.put N v = a') (h : wpAnyLast P md ops Q S ds fuel (upto n k') a' w) : wpAnyLast P md ops Q S ds (fuel + 1) (upto n k) a w :=
  take_ (upto n k') hi rfl (take_ofW hT hB hc) hQ (Or.inl ⟨wanted_none rfl _, hy⟩) hS ha h
theorem takeG {k' j : Nat} {u b : Bool} (hk : k + 1 = k') (hi : ops[k]? = some ⟨N, op, ty, pos, af, some (j, u)⟩) (hb : yielded ops a.tmps j = some b) (hT : rtab md ops = T) (hB : waitsOk T.2 B = true) (hc : takeW T B ds (upto n k).toList (upto n k').toList k = true) (hQ : ∀ c a w, Q (.panic c) (a.put N v) w → Q (.panic c) a w) (hS : S w) (hy : if (b == u) = true then ∀ w, S w → (execOp a.eval ⟨N, op, ty, pos, af, some (j, u)⟩).run P w = .ok (.value v) w else v = undef) (ha : a.put N v = a') (h : wpAnyLast P md ops Q S ds fuel (upto n k') a' w) : wpAnyLast P md ops Q S ds (fuel + 1) (upto n k) a w := by
  refine take_ (upto n k') hi rfl (take_ofW hT hB hc) hQ ?_ hS ha h
  cases he : (b == u) with
  | true => rw [he, if_pos rfl] at hy; exact Or.inl ⟨wanted_yes rfl hb he, hy⟩
  | false => rw [he, if_neg (by decide)] at hy; exact Or.inr ⟨wanted_no rfl hb he, hy⟩
theorem oneK {k' : Nat} (hk : k + 1 = k') (hi : ops[k]? = some ⟨N, op, ty, pos, af, gu⟩) (hT : rtab md ops = T) (hc : (readyT T.2 (upto n k).toList == [k] && (upto n k).toList.set k true == (upto n k').toList) = true) (hd : k ∉ ds)
    (h : ∀ K : Act → World → Prop, Shut (∀ a' w', S w' → (S w' → wpAnyLast P md ops Q S ds fuel (upto n k') a' w') → K a' w') → if Region.wanted ⟨N, op, ty, pos, af, gu⟩ (yielded ops a.tmps) = true then Oper.wp P ⟨N, op, ty, pos, af, gu⟩ a w K Q else K (a.put N undef) w) : wpAnyLast P md ops Q S ds (fuel + 1) (upto n k) a w :=
  one_ (upto n k') hi rfl (one_of hT hc) hd h
end
end Go.Proofs.Ytpdnabhpkdchjaa.P
namespace Go.Proofs.Ytpdnabhpkdchjaa.P
open Go.RowKit Go.Proofs.YtpdnabhpkdchjaaW.PrintWords Go.Proofs.YtpdnabhpkdchjaaW.PrintLast Go.Proofs.YtpdnabhpkdchjaaW.PrintMore
set_option linter.unusedVariables false
set_option linter.unusedSimpArgs false
theorem infoE56 : (Try.prog.info? 56).map (fun i => (i.zero, i.size, i.bytes)) = some (some (.agg #[(.int .i64 0), (.int .i64 0), (.int .i64 0)]), 3, 24) := by kernel_rfl
theorem fill3t {w w' : World} {g t : Nat} {x0 x1 x2 y0 y1 y2 : Value} (hx : w'.heap[g]? = some (.cells #[x0, x1, x2] t (0, 0))) (hb : Below w.heap.size w w') (hg : w.heap.size ≤ g) :
    Below w.heap.size w (((w'.setCell ⟨g, 0, none⟩ y0).setCell ⟨g, 1, none⟩ y1).setCell ⟨g, 2, none⟩ y2) ∧ (((w'.setCell ⟨g, 0, none⟩ y0).setCell ⟨g, 1, none⟩ y1).setCell ⟨g, 2, none⟩ y2).heap[g]? = some (.cells #[y0, y1, y2] t (0, 0)) :=
  ⟨below_set (j := 2) (v := y2) (below_set (j := 1) (v := y1) (below_set (j := 0) (v := y0) hb hg) hg) hg, blk_put (blk_put (blk_put hx 0 y0 rfl) 1 y1 rfl) 2 y2 rfl⟩
end Go.Proofs.Ytpdnabhpkdchjaa.P
namespace Go.Proofs.Ytpdnabhpkdchjaa.P
open Go Go.Sort Go.RowKit Go.Proofs Go.Proofs.YtpdnabhpkdchjaaW.PrintWords Go.Proofs.YtpdnabhpkdchjaaW.PrintLast Go.Proofs.YtpdnabhpkdchjaaW.PrintMore
set_option linter.unusedVariables false
set_option linter.unusedSimpArgs false
def BdM (x : S154) : Prop := (0 ≤ x.f0 ∧ x.f0 ≤ 4000000) ∧ (0 ≤ x.f1 ∧ x.f1 ≤ 4000000) ∧ (0 ≤ x.f2 ∧ x.f2 ≤ 4000000)
structure BM where
  val : S154
  bd : BdM val
instance inhBM : Inhabited BM := ⟨⟨z154, by unfold BdM z154; dsimp only; omega⟩⟩
def encM (x : BM) : List Value := [.int .i64 x.1.f0, .int .i64 x.1.f1, .int .i64 x.1.f2]
def cfM (x y : BM) : Int := if x.1.f0 - y.1.f0 = 0 then (if x.1.f1 - y.1.f1 = 0 then x.1.f2 - y.1.f2 else x.1.f1 - y.1.f1) else x.1.f0 - y.1.f0
theorem cfM_lt (x y : BM) : ltOf cfM x y = lexLt x.1 y.1 := by
  unfold ltOf cfM
  cases hq : lexLt x.1 y.1
  · rw [lexLt_not] at hq
    refine decide_eq_false ?_
    split
    · split <;> omega
    · omega
  · rw [lexLt_iff] at hq
    refine decide_eq_true ?_
    split
    · split <;> omega
    · omega
theorem cfM_swo : SWO (ltOf cfM) where
  irrefl x := by rw [cfM_lt, lexLt_irrefl]
  trans x y z h1 h2 := by rw [cfM_lt] at *; exact lexLt_trans h1 h2
  ntrans x y z h1 h2 := by
    rw [cfM_lt] at *
    rw [lexLt_not] at *
    omega
section
variable {w : World} {base e g m c : Nat} {ok : Nat → Prop} {xs : List S154}
theorem met_cells (h : Kd.R k154 e w base ok (.slice (some ⟨g, 0, none⟩) m c) xs) (i : Nat) (h1 : i < m) :
    w.cell? ⟨g, i * 3, none⟩ = some (.int .i64 (rd_T154 xs (i : Int)).f0) ∧ w.cell? ⟨g, i * 3 + 1, none⟩ = some (.int .i64 (rd_T154 xs (i : Int)).f1) ∧ w.cell? ⟨g, i * 3 + 2, none⟩ = some (.int .i64 (rd_T154 xs (i : Int)).f2) ∧ ∀ j, w.frozen? ⟨g, i * 3 + j, none⟩ = false := by
  obtain ⟨ce, hcl, hM, hcc, hfr⟩ := Kd.R_elem h z154 (i : Int) (by omega) (by omega)
  obtain rfl := k154_openM hM
  rw [Int.toNat_natCast] at hcc hfr
  exact ⟨hcc 0 _ rfl, hcc 1 _ rfl, hcc 2 _ rfl, fun j => hfr j⟩
theorem flat_at (d : Array BM) (i j : Nat) (hi : i < d.size) (hj : j < 3) : (flatK encM 3 d)[i * 3 + j]! = (encM d[i]!)[j]! := by
  rw [get_flatK _ _ _ _ (by omega), show (i * 3 + j) / 3 = i by omega, show (i * 3 + j) % 3 = j by omega]
theorem bm_get {d : Array BM} (hd : d.toList.map BM.val = xs) (i : Nat) (hi : i < d.size) : (d[i]!).1 = rd_T154 xs (i : Int) := by
  subst hd
  rw [getElem!_pos d i hi, rd_T154, Int.toNat_natCast, List.getD_eq_getElem?_getD, List.getElem?_map]
  simp [hi]
theorem met_holds (h : Kd.R k154 e w base ok (.slice (some ⟨g, 0, none⟩) m c) xs) (d : Array BM) (hd : d.toList.map BM.val = xs) (hm : m = xs.length) : HoldsK encM 3 w g 0 d := by
  intro j hj
  rw [size_flatK] at hj
  have hs : d.size = xs.length := by rw [← hd]; simp
  have hi : j / 3 < d.size := by omega
  obtain ⟨c0, c1, c2, fr⟩ := met_cells h (j / 3) (by omega)
  have hg := bm_get hd (j / 3) hi
  have e : j = j / 3 * 3 + j % 3 := by omega
  have hr : j % 3 < 3 := by omega
  generalize j / 3 = i at *
  generalize j % 3 = q at *
  subst e
  rw [Nat.zero_add]
  refine ⟨?_, fr q⟩
  rw [flat_at d i q hi hr]
  rcases (show q = 0 ∨ q = 1 ∨ q = 2 by omega) with rfl | rfl | rfl
  · rw [Nat.add_zero, c0, ← hg]; rfl
  · rw [c1, ← hg]; rfl
  · rw [c2, ← hg]; rfl
theorem heapK {n : Nat} {os : Array Obj} {cur : Array Value} {fr : Nat × Nat} (d : Array BM) (hb : w.heap[g]? = some (.cells cur e fr)) :
    (sortWorldK encM 3 w g 0 n d os).heap[g]? = some (.cells (putCells id 0 (flatK encM 3 d) cur) e fr) := by
  have hg : g < w.heap.size := (Array.getElem?_eq_some_iff.1 hb).1
  unfold sortWorldK putRowK
  rw [heap_grow_old _ _ (by simpa [putRow, mapBlock, Sort.ahead] using hg)]
  simp [putRow, mapBlock, Sort.ahead, Array.getElem?_modify, hb, onCells]
theorem grownK {n : Nat} {os : Array Obj} (d : Array BM) : w.grownBy (sortWorldK encM 3 w g 0 n d os) (some g) := by
  unfold sortWorldK putRowK
  refine ⟨rfl, rfl, rfl, by simp [grow, putRow, mapBlock, Sort.ahead], fun k hk hne => ?_⟩
  rw [heap_grow_old _ _ (by simpa [putRow, mapBlock, Sort.ahead] using hk)]
  have : g ≠ k := fun e => hne (by rw [e])
  simp [putRow, mapBlock, Sort.ahead, Array.getElem?_modify, this]
theorem take_putK (cur : Array Value) (F : Array Value) (h : F.size ≤ cur.size) : (putCells id 0 F cur).toList.take F.size = F.toList := by
  apply List.ext_getElem?
  intro j
  by_cases hj : j < F.size
  · rw [List.getElem?_take_of_lt hj, Array.getElem?_toList]
    simp [putCells, hj, show j < cur.size by omega]
  · rw [List.getElem?_take_eq_none (by omega), List.getElem?_eq_none (by simp; omega)]
theorem flat_seg (d : Array BM) (i : Nat) (hi : i < d.size) : ((flatK encM 3 d).toList.drop (i * 3)).take 3 = encM d[i]! := by
  apply List.ext_getElem?
  intro j
  by_cases hj : j < 3
  · have hs : i * 3 + j < (flatK encM 3 d).size := by rw [size_flatK]; omega
    rw [List.getElem?_take_of_lt hj, List.getElem?_drop, Array.getElem?_toList, Array.getElem?_eq_getElem hs, ← getElem!_pos (flatK encM 3 d) _ hs, flat_at d i j hi hj]
    rcases (show j = 0 ∨ j = 1 ∨ j = 2 by omega) with rfl | rfl | rfl <;> rfl
  · rw [List.getElem?_take_eq_none (by omega), List.getElem?_eq_none (by show 3 ≤ j; omega)]
theorem met_sorted (h : Kd.R k154 e w base ok (.slice (some ⟨g, 0, none⟩) m c) xs) (d : Array BM) (hs : d.size = xs.length) (n : Nat) (os : Array Obj) :
    Kd.R k154 e (sortWorldK encM 3 w g 0 n d os) base ok (.slice (some ⟨g, 0, none⟩) m c) (d.toList.map BM.val) := by
  obtain ⟨hok, inner, ⟨hl, ho⟩, hr⟩ := h
  rcases ho with ⟨hv, _⟩ | ⟨g', cap, cur, hv, hb, hh, hnc, hcm, hcs, ht⟩
  · cases hv
  injection hv with ha hn hc
  injection ha with ha
  injection ha with hg
  subst hg hc
  have hll : (d.toList.map BM.val).length = xs.length := by rw [List.length_map, Array.length_toList, hs]
  refine ⟨hok, (flatK encM 3 d).toList, ⟨by rw [hll, Array.length_toList, size_flatK, hs]; rfl, .inr ⟨g, c, _, by rw [hll]; exact congrArg (fun q => Value.slice _ q _) hn, hb, heapK d hh, by rw [hll]; exact hnc, hcm, by simp [putCells, hcs], ?_⟩⟩, by rw [hll, Array.length_toList, size_flatK, hs]; rfl, fun j p hp => ?_⟩
  · have hz : (d.toList.map BM.val).length * k154.sz = (flatK encM 3 d).size := by rw [hll, size_flatK, hs]; rfl
    rw [hz]
    refine take_putK cur _ ?_
    rw [size_flatK, hcs, hs]
    exact Nat.mul_le_mul_right _ hnc
  · have hj : j < d.size := by
      have := (List.getElem?_eq_some_iff.1 hp).1
      rwa [List.length_map, Array.length_toList] at this
    have e2 : ((flatK encM 3 d).toList.drop (j * k154.sz)).take k154.sz = encM d[j]! := flat_seg d j hj
    rw [e2]
    have e3 : (d[j]!).1 = p := by
      rw [List.getElem?_map, Array.getElem?_toList, Array.getElem?_eq_getElem hj] at hp
      rw [getElem!_pos d j hj]
      injection hp
    rw [← e3]
    exact k154_mkM _ _ _ (d[j]!).1
end
theorem sorted_is {xs : List S154} (hx : xs.Nodup) (d d' : Array BM) (hd : d.toList.map BM.val = xs) (hp : PermIn 0 d.size d d') (hs : SortedIn (ltOf cfM) 0 d.size d') : d'.size = xs.length ∧ d'.toList.map BM.val = sortM xs := by
  obtain ⟨h1, -, h3⟩ := hp
  have hsz : d.size = xs.length := by rw [← hd]; simp
  have e1 : d.extract 0 d.size = d := by simp
  have e2 : d'.extract 0 d.size = d' := by rw [← h1]; simp
  rw [e1, e2] at h3
  refine ⟨by omega, lex_unique ?_ ?_ (sortM_sorted xs hx)⟩
  · exact ((h3.map BM.val).trans (by rw [hd])).trans (sortM_perm xs).symm
  · rw [List.pairwise_map, List.pairwise_iff_getElem]
    intro i j hi hj hij
    rw [Array.length_toList] at hi hj
    have h := hs i j (Nat.zero_le _) hij (by omega)
    rw [cfM_lt, getElem!_pos d' i hi, getElem!_pos d' j hj] at h
    have hne : (d'[i]).1 ≠ (d'[j]).1 := by
      intro he
      have hnd : (d'.toList.map BM.val).Nodup := ((h3.map BM.val).trans (by rw [hd])).nodup_iff.2 hx
      rw [List.Nodup, List.pairwise_map, List.pairwise_iff_getElem] at hnd
      exact hnd i j (by simpa using hi) (by simpa using hj) hij (by simpa using he)
    rw [Array.getElem_toList, Array.getElem_toList]
    cases hq : lexLt (d'[i]).1 (d'[j]).1
    · exact absurd (lexLt_total hq h) hne
    · rfl
end Go.Proofs.Ytpdnabhpkdchjaa.P
namespace Go.Proofs.Ytpdnabhpkdchjaa.P
open Go Go.Sort Go.RowKit Go.Proofs Go.Proofs.YtpdnabhpkdchjaaW.PrintWords Go.Proofs.YtpdnabhpkdchjaaW.PrintLast Go.Proofs.YtpdnabhpkdchjaaW.PrintMore
set_option linter.unusedVariables false
set_option linter.unusedSimpArgs false
def sortMet_ren : Go.Shelf.Ren := ⟨fun | 6 => 120 | 15 => 136 | 14 => 135 | 28 => 145 | 29 => 146 | 20 => 137 | 21 => 138 | 22 => 139 | 23 => 140 | 24 => 141 | 25 => 142 | 26 => 143 | 27 => 144 | 46 => 147 | 47 => 148 | 48 => 149 | 49 => 150 | 50 => 151 | 57 => 152 | n => n, fun | 22 => 144 | 24 => 146 | 25 => 149 | 3 => 3 | 39 => 172 | 0 => 0 | 53 => 182 | 55 => 114 | 4 => 4 | 46 => 175 | 45 => 174 | 50 => 179 | 5 => 5 | 9 => 9 | 66 => 184 | 70 => 188 | 76 => 190 | 77 => 191 | n => n, fun | n => n⟩
theorem sortMet : Go.Proofs.SlLaysF0.n6 Try.prog sortMet_ren := {
  mixed := by kernel_rfl,
  f6 := ⟨Try.f120.name, by decide, Try.func120.trans (congrArg some (by kernel_rfl))⟩,
  f14 := ⟨Try.f135.name, by decide, Try.func135.trans (congrArg some (by kernel_rfl))⟩,
  f15 := Try.func136.trans (congrArg some (by kernel_rfl)),
  f20 := ⟨Try.f137.name, by decide, Try.func137.trans (congrArg some (by kernel_rfl))⟩,
  f21 := ⟨Try.f138.name, by decide, Try.func138.trans (congrArg some (by kernel_rfl))⟩,
  f22 := ⟨Try.f139.name, by decide, Try.func139.trans (congrArg some (by kernel_rfl))⟩,
  f23 := ⟨Try.f140.name, by decide, Try.func140.trans (congrArg some (by kernel_rfl))⟩,
  f24 := ⟨Try.f141.name, by decide, Try.func141.trans (congrArg some (by kernel_rfl))⟩,
  f25 := ⟨Try.f142.name, by decide, Try.func142.trans (congrArg some (by kernel_rfl))⟩,
  f26 := ⟨Try.f143.name, by decide, Try.func143.trans (congrArg some (by kernel_rfl))⟩,
  f27 := ⟨Try.f144.name, by decide, Try.func144.trans (congrArg some (by kernel_rfl))⟩,
  f28 := Try.func145.trans (congrArg some (by kernel_rfl)),
  f29 := Try.func146.trans (congrArg some (by kernel_rfl)),
  f46 := ⟨Try.f147.name, by decide, Try.func147.trans (congrArg some (by kernel_rfl))⟩,
  f47 := Try.func148.trans (congrArg some (by kernel_rfl)),
  f48 := Try.func149.trans (congrArg some (by kernel_rfl)),
  f49 := ⟨Try.f150.name, by decide, Try.func150.trans (congrArg some (by kernel_rfl))⟩,
  f50 := ⟨Try.f151.name, by decide, Try.func151.trans (congrArg some (by kernel_rfl))⟩,
  f57 := ⟨Try.f152.name, by decide, Try.func152.trans (congrArg some (by kernel_rfl))⟩,
  t0 := Try.underlying0,
  a0 := Try.isAgg0,
  z0 := Try.sizeOf0,
  v0 := Try.zeroValue0,
  t3 := Try.underlying3,
  a3 := Try.isAgg3,
  z3 := Try.sizeOf3,
  v3 := Try.zeroValue3,
  t4 := Try.underlying4,
  a4 := Try.isAgg4,
  z4 := Try.sizeOf4,
  v4 := Try.zeroValue4,
  t5 := Try.underlying5,
  a5 := Try.isAgg5,
  z5 := Try.sizeOf5,
  v5 := Try.zeroValue5,
  t9 := Try.underlying9,
  a9 := Try.isAgg9,
  z9 := Try.sizeOf9,
  v9 := Try.zeroValue9,
  t22 := Try.underlying144,
  a22 := Try.isAgg144,
  z22 := Try.sizeOf144,
  v22 := Try.zeroValue144,
  t25 := Try.underlying149,
  a25 := Try.isAgg149,
  z25 := Try.sizeOf149,
  v25 := Try.zeroValue149,
  t39 := Try.underlying172,
  a39 := Try.isAgg172,
  z39 := Try.sizeOf172,
  v39 := Try.zeroValue172,
  t45 := Try.underlying174,
  a45 := Try.isAgg174,
  z45 := Try.sizeOf174,
  v45 := Try.zeroValue174,
  t46 := Try.underlying175,
  a46 := Try.isAgg175,
  z46 := Try.sizeOf175,
  v46 := Try.zeroValue175,
  t50 := Try.underlying179,
  a50 := Try.isAgg179,
  z50 := Try.sizeOf179,
  v50 := Try.zeroValue179,
  t53 := Try.underlying182,
  a53 := Try.isAgg182,
  z53 := Try.sizeOf182,
  v53 := Try.zeroValue182,
  t55 := Try.underlying114,
  a55 := Try.isAgg114,
  z55 := Try.sizeOf114,
  v55 := Try.zeroValue114,
  t66 := Try.underlying184,
  a66 := Try.isAgg184,
  z66 := Try.sizeOf184,
  v66 := Try.zeroValue184,
  t70 := Try.underlying188,
  a70 := Try.isAgg188,
  z70 := Try.sizeOf188,
  v70 := Try.zeroValue188,
  t76 := Try.underlying190,
  a76 := Try.isAgg190,
  z76 := Try.sizeOf190,
  v76 := Try.zeroValue190,
  t77 := Try.underlying191,
  a77 := Try.isAgg191,
  z77 := Try.sizeOf191,
  v77 := Try.zeroValue191 }
set_option maxHeartbeats 4000000 in
set_option maxRecDepth 100000 in
theorem or3_is (g c : Nat) (x y z : Int) (w : World) (h0 : w.cell? ⟨g, 0, none⟩ = some (.int .i64 x)) (h1 : w.cell? ⟨g, 1, none⟩ = some (.int .i64 y)) (h2 : w.cell? ⟨g, 2, none⟩ = some (.int .i64 z)) :
    Calls Try.prog 122 #[.slice (some ⟨g, 0, none⟩) 3 c] w fun e w' => e = .returned (.int .i64 (if x = 0 then (if y = 0 then z else y) else x)) ∧ w' = w := by
  have hr : (if x = 0 then (if y = 0 then z else y) else x) = (if x = 0 then (if y = 0 then (if z = 0 then 0 else z) else y) else x) := by
    split
    · split
      · split
        · rename_i h; exact h
        · rfl
      · rfl
    · rfl
  rw [hr]
  clear hr
  go_enter Try.func122, Try.ntmps122
  go_wp2_with fail
  go_loopg [8] 3 (fun kq v8 w' => w' = w ∧ ((kq = 3 ∧ v8 = .int .i64 0) ∨ (kq = 2 ∧ v8 = .int .i64 1 ∧ x = 0) ∨ (kq = 1 ∧ v8 = .int .i64 2 ∧ x = 0 ∧ y = 0) ∨ (kq = 0 ∧ v8 = .int .i64 3 ∧ x = 0 ∧ y = 0 ∧ z = 0)))
  case atStart => exact ⟨rfl, .inl ⟨rfl, rfl⟩⟩
  case round =>
    obtain ⟨rfl, ⟨rfl, rfl⟩ | ⟨rfl, rfl, rfl⟩ | ⟨rfl, rfl, rfl, rfl⟩ | ⟨rfl, rfl, rfl, rfl, rfl⟩⟩ := hrel
    · by_cases hx : x = 0
      · have hb : (x != 0) = false := by simp [hx]
        go_wp2_with fail
        go_roundg 2
        case measure => omega
        case rel => exact ⟨rfl, .inr (.inl ⟨rfl, rfl, hx⟩)⟩
      · have hb : (x != 0) = true := by simp [hx]
        go_wp2_with fail
        go_ret
        exact ⟨by simp [hx], rfl⟩
    · by_cases hx : y = 0
      · have hb : (y != 0) = false := by simp [hx]
        go_wp2_with fail
        go_roundg 1
        case measure => omega
        case rel => exact ⟨rfl, .inr (.inr (.inl ⟨rfl, rfl, trivial, hx⟩))⟩
      · have hb : (y != 0) = true := by simp [hx]
        go_wp2_with fail
        go_ret
        exact ⟨by simp [hx], rfl⟩
    · by_cases hx : z = 0
      · have hb : (z != 0) = false := by simp [hx]
        go_wp2_with fail
        go_roundg 0
        case measure => omega
        case rel => exact ⟨rfl, .inr (.inr (.inr ⟨rfl, rfl, trivial, trivial, hx⟩))⟩
      · have hb : (z != 0) = true := by simp [hx]
        go_wp2_with fail
        go_ret
        exact ⟨by simp [hx], rfl⟩
    · go_wp2_with fail
      go_ret
      exact ⟨rfl, rfl⟩
set_option maxHeartbeats 4000000 in
set_option maxRecDepth 100000 in
theorem cmpI (a0 a1 a2 b0 b1 b2 : Int) (hx0 : 0 ≤ a0 ∧ a0 ≤ 4000000) (hx1 : 0 ≤ a1 ∧ a1 ≤ 4000000) (hx2 : 0 ≤ a2 ∧ a2 ≤ 4000000) (hy0 : 0 ≤ b0 ∧ b0 ≤ 4000000) (hy1 : 0 ≤ b1 ∧ b1 ≤ 4000000) (hy2 : 0 ≤ b2 ∧ b2 ≤ 4000000) (W : World) :
    Calls Try.prog 121 #[.agg #[.int .i64 a0, .int .i64 a1, .int .i64 a2], .agg #[.int .i64 b0, .int .i64 b1, .int .i64 b2]] W fun e w' => e = .returned (.int .i64 (if a0 - b0 = 0 then (if a1 - b1 = 0 then a2 - b2 else a1 - b1) else a0 - b0)) ∧ ∃ q os', w' = grow (W.drewN q) os' := by
  have e0 : IntKind.i64.wrap (a0 - b0) = a0 - b0 := (i64_w _).trans (wrap_id (by omega) (by omega))
  have e1 : IntKind.i64.wrap (a1 - b1) = a1 - b1 := (i64_w _).trans (wrap_id (by omega) (by omega))
  have e2 : IntKind.i64.wrap (a2 - b2) = a2 - b2 := (i64_w _).trans (wrap_id (by omega) (by omega))
  clear hx0 hx1 hx2 hy0 hy1 hy2
  obtain ⟨p, hp⟩ : ∃ p, p = a0 - b0 := ⟨_, rfl⟩
  obtain ⟨q, hq⟩ : ∃ q, q = a1 - b1 := ⟨_, rfl⟩
  obtain ⟨r, hr⟩ : ∃ r, r = a2 - b2 := ⟨_, rfl⟩
  rw [← hp, ← hq, ← hr]
  have E0 := e0.trans hp.symm
  have E1 := e1.trans hq.symm
  have E2 := e2.trans hr.symm
  clear e0 e1 e2 hp hq hr
  obtain ⟨v, hv⟩ : ∃ v, v = (if p = 0 then (if q = 0 then r else q) else p) := ⟨_, rfl⟩
  rw [← hv]
  have OR := Aside0.mk (show ∀ (g c : Nat) (w : World), w.cell? ⟨g, 0, none⟩ = some (.int .i64 p) → w.cell? ⟨g, 1, none⟩ = some (.int .i64 q) → w.cell? ⟨g, 2, none⟩ = some (.int .i64 r) →
    Calls Try.prog 122 #[.slice (some ⟨g, 0, none⟩) 3 c] w fun e w' => e = .returned (.int .i64 v) ∧ w' = w from fun g c w h0 h1 h2 => by rw [hv]; exact or3_is g c p q r w h0 h1 h2)
  clear hv
  go_enter Try.func121, Try.ntmps121
  go_wp2_with (go_at_call 122; refine (OR.out _ _ _ ?c0 ?c1 ?c2).mono ?_; (case c0 => go_simp); (case c1 => go_simp); (case c2 => go_simp); rintro e w' ⟨rfl, rfl⟩)
  go_ret
  exact ⟨rfl, 0, _, by rw [alloc_eq_grow, alloc_eq_grow, alloc_eq_grow, grow_grow, grow_grow]; rfl⟩
theorem cmp121 (x y : BM) (W : World) : Calls Try.prog 121 #[.agg (encM x).toArray, .agg (encM y).toArray] W fun e w' => e = .returned (.int .i64 (cfM x y)) ∧ ∃ q os', w' = grow (W.drewN q) os' :=
  cmpI x.1.f0 x.1.f1 x.1.f2 y.1.f0 y.1.f1 y.1.f2 x.2.1 x.2.2.1 x.2.2.2 y.2.1 y.2.2.1 y.2.2.2 W
theorem isAgg146 : ∀ w, (isAgg 146).run Try.prog w = .ok true w := Try.isAgg146
theorem sizeOf146 : ∀ w, (Go.sizeOf 146).run Try.prog w = .ok 3 w := Try.sizeOf146
theorem bm_list {xs : List S154} (hb : ∀ x ∈ xs, BdM x) : ∃ d : Array BM, d.toList.map BM.val = xs := by
  induction xs with
  | nil => exact ⟨#[], rfl⟩
  | cons x xs ih =>
    obtain ⟨d, hd⟩ := ih (fun y hy => hb y (List.mem_cons_of_mem _ hy))
    exact ⟨(⟨x, hb x List.mem_cons_self⟩ :: d.toList).toArray, by rw [List.map_cons, hd]⟩
section
variable {w : World} {base g m c : Nat} {ok : Nat → Prop} {xs : List S154}
theorem sort_is (h : Kd.R k154 146 w base ok (.slice (some ⟨g, 0, none⟩) m c) xs) (hx : xs.Nodup) (hb : ∀ x ∈ xs, BdM x) (hl : xs.length ≤ 1000000) :
    Calls Try.prog 120 #[.slice (some ⟨g, 0, none⟩) m c, .func (.func 121) #[] #[]] w fun e w' => e = .returned (.tuple #[]) ∧ Kd.R k154 146 w' base ok (.slice (some ⟨g, 0, none⟩) m c) (sortM xs) ∧ w.grownBy w' (some g) := by
  have hm : m = xs.length := (Kd.R_reads' h).1
  obtain ⟨d, hd⟩ := bm_list hb
  have hs : d.size = xs.length := by rw [← hd]; simp
  have eg : ∀ args w, (callFunc 121 args).run Try.prog w = .ok (.enter 121 args) w := enters_of Try.func121 (by kernel_rfl) rfl
  have hcon := AnyQ.slices_SortFunc sortMet 3 isAgg146 sizeOf146 encM (fun _ => rfl) (fun x v hv => by simp [encM] at hv; rcases hv with rfl | rfl | rfl <;> rfl) cfM cfM_swo 121 #[] g 0 c d w eg (fun _ _ _ _ x y => cmp121 x y _) (met_holds h d hd hm) (Kd.R_lt h g rfl) (by omega)
  change Calls Try.prog 120 _ _ _ at hcon
  rw [hs, ← hm] at hcon
  refine hcon.mono ?_
  rintro e w' ⟨rfl, d', n, os, hp, hso, rfl⟩
  rw [hm, ← hs] at hp hso
  obtain ⟨h1, h2⟩ := sorted_is hx d d' hd hp hso
  exact ⟨rfl, by rw [← h2]; exact met_sorted h d' h1 n os, grownK d'⟩
theorem sort_none (p : Option Addr) (c : Nat) (w : World) : Calls Try.prog 120 #[.slice p 0 c, .func (.func 121) #[] #[]] w fun e w' => e = .returned (.tuple #[]) ∧ w' = w :=
  AnyF.slices_SortFunc_none sortMet p c _ w
end
end Go.Proofs.Ytpdnabhpkdchjaa.P
namespace Go.Proofs.Ytpdnabhpkdchjaa.P
open Go Go.RowKit Go.Proofs.YtpdnabhpkdchjaaW.PrintWords Go.Proofs.YtpdnabhpkdchjaaW.PrintLast Go.Proofs.YtpdnabhpkdchjaaW.PrintMore
set_option linter.unusedVariables false
set_option linter.unusedSimpArgs false
def ip_T7 : Bool × List (List Nat × List Nat) := (true, [([], []), ([], []), ([1], [1]), ([0, 2], [0, 2]), ([3], [3]), ([4, 3], [4]), ([5], [5]), ([6, 5], [5, 6]), ([7, 5, 5], [5, 7]), ([8], [8]), ([9, 8], [8, 9]), ([8], [8]), ([8], [8]), ([12, 8], [8, 12]), ([11, 13, 8], [8, 11, 13]), ([14, 8], [8, 14]), ([15, 8], [8, 15]), ([10, 16, 8], [8, 10, 16]), ([8, 17, 5], [5, 8, 17]), ([5, 18], [5, 18]), ([19, 8], [19]), ([20], [20]), ([21, 20], [20, 21]), ([22, 20], [20, 22]), ([20, 23], [20, 23]), ([24, 20], [24]), ([25], [25]), ([26, 25], [25, 26]), ([25], [25]), ([28, 25], [25, 28]), ([29, 25], [25, 29]), ([27, 30, 25], [25, 27, 30]), ([25, 31], [25, 31]), ([32, 25], [32]), ([33], [33]), ([34, 33], [33, 34]), ([35, 33], [33, 35]), ([36, 33, 33], [33, 36]), ([37], [37]), ([38, 37], [37, 38]), ([39, 37], [37, 39]), ([37, 40, 33], [33, 37, 40]), ([33, 41], [33, 41])])
def ip_B7 : List Nat := [0, 0, 2, 7, 15, 31, 63, 127, 255, 511, 1023, 511, 511, 4607, 14847, 31231, 63999, 131071, 262143, 524287, 1048575, 2097151, 4194303, 8388607, 16777215, 33554431, 67108863, 134217727, 67108863, 335544319, 872415231, 2147483647, 4294967295, 8589934591, 17179869183, 34359738367, 68719476735, 137438953471, 274877906943, 549755813887, 1099511627775, 2199023255551, 4398046511103]
theorem ip_tab7 : rtab .any (opsOf Try.f75 7) = ip_T7 := by kernel_rfl
theorem ip_bits7 : waitsOk ip_T7.2 ip_B7 = true := by kernel_rfl
def ip_T33 : Bool × List (List Nat × List Nat) := (true, [([], []), ([], []), ([], []), ([2], [2]), ([1, 3], [1, 3]), ([4], [4]), ([5], [5]), ([], []), ([], []), ([8], [8]), ([7, 9], [7, 9]), ([10], [10]), ([11], [11]), ([6, 12], [6, 12]), ([13], [13]), ([0, 14], [0, 14]), ([15, 15, 0, 1, 2, 3, 4, 5, 6, 7, 8, 9, 10, 11, 12, 13, 14, 15], [0, 15])])
def ip_B33 : List Nat := [0, 0, 0, 4, 14, 30, 62, 0, 0, 256, 896, 1920, 3968, 8190, 16382, 32767, 65535]
theorem ip_tab33 : rtab .any (opsOf Try.f75 33) = ip_T33 := by kernel_rfl
theorem ip_bits33 : waitsOk ip_T33.2 ip_B33 = true := by kernel_rfl
theorem info146 : (Try.prog.info? 146).map (fun i => (i.zero, i.size, i.bytes)) = some (some (.agg #[(.int .i64 0), (.int .i64 0), (.int .i64 0)]), 3, 24) := by kernel_rfl
theorem goesV_ {P : Program} {ops : Array Oper} {Q : Exit → Act → World → Prop} {oi : Oper} {N : Option Tmp} {a : Act} {w : World} {K : Act → World → Prop} {f : FuncId} {fn : Func} {s : Operand} {as_ : Array Operand} {ts : Array TypeId} (hf : P.funcs[f]? = some fn) (hname : (fn.name == "runtime.NumGoroutine") = false) (hb : fn.body.isSome = true) (args : Array Value)
    (hw : Region.wanted oi (yielded ops a.tmps) = true) (hN : oi.dst = N) (hop : oi.op = .call { callee := .value s, args := as_, argTypes := ts }) (hs : a.eval s = .func (.func f) #[] #[]) (hargs : as_.map a.eval = args)
    (h : Calls P f args w fun e w' => ∃ v, e = .returned v ∧ K (a.put N v) w') : if Region.wanted oi (yielded ops a.tmps) = true then Oper.wp P oi a w K Q else K (a.put N undef) w := by
  refine call_ f args hw hN ?_ h
  have he := enters_ hf hname hb args w
  unfold execOp
  simp [hop, resolve, Deferred.ofValue, invoke, hs, hargs, he]
theorem takeU {P : Program} {md : Region.Mode} {ops : Array Oper} {T : Bool × List (List Nat × List Nat)} {B : List Nat} {Q : Exit → Act → World → Prop} {S : World → Prop} {ds : List Nat} {n k fuel k' j : Nat} {u : Bool} {N : Option Tmp} {a a' : Act} {w : World} {op : Op} {ty : TypeId} {pos : String} {af : Array Edge} (hk : k + 1 = k') (hi : ops[k]? = some ⟨N, op, ty, pos, af, some (j, u)⟩) (hw : Region.wanted ⟨N, op, ty, pos, af, some (j, u)⟩ (yielded ops a.tmps) = false) (hT : rtab md ops = T) (hB : waitsOk T.2 B = true) (hc : takeW T B ds (upto n k).toList (upto n k').toList k = true) (hQ : ∀ c a w, Q (.panic c) (a.put N undef) w → Q (.panic c) a w) (hS : S w) (ha : a.put N undef = a') (h : wpAnyLast P md ops Q S ds fuel (upto n k') a' w) : wpAnyLast P md ops Q S ds (fuel + 1) (upto n k) a w :=
  take_ (v := undef) (upto n k') hi rfl (take_ofW hT hB hc) hQ (Or.inr ⟨hw, rfl⟩) hS ha h
theorem lit_fresh2 {e : TypeId} {W : World} {b0 : Nat} {ok : Nat → Prop} {v : Value} {xs : List S56} (h : Kd.R k56 e W b0 ok v xs) : some W.heap.size ≠ v.ownBlock := fun he => Nat.lt_irrefl _ (Kd.R_lt h _ he.symm)
theorem lit_below2 {W w1 : World} (hg : W.grownBy w1 none) : Below W.heap.size W w1 := (Below.refl W.heap.size W).grown hg (Nat.le_refl _) (fun _ h => nomatch h)
def farB (x : Int) : Bool := decide (0 ≤ x) && decide (x ≤ 1000000)
set_option maxHeartbeats 4000000 in
set_option maxRecDepth 100000 in
theorem far_at {x : Int} {b : Bool} (hb : farB x = b) (w : World) : Calls Try.prog 119 #[.int .i64 x] w fun e w' => e = .returned (.bool b) ∧ w' = w := by
  rw [← hb]
  unfold farB
  by_cases h0 : 0 ≤ x
  · have h0' : decide (x ≥ 0) = true := decide_eq_true h0
    by_cases h1 : x ≤ 1000000
    · have h1' : decide (x ≤ 1000000) = true := decide_eq_true h1
      go_enter Try.func119, Try.ntmps119
      go_wp2_with fail
      go_ret
      exact ⟨by simp [h0, h1], rfl⟩
    · have h1' : decide (x ≤ 1000000) = false := decide_eq_false h1
      go_enter Try.func119, Try.ntmps119
      go_wp2_with fail
      go_ret
      exact ⟨by simp [h0, h1], rfl⟩
  · have h0' : decide (x ≥ 0) = false := decide_eq_false h0
    go_enter Try.func119, Try.ntmps119
    go_wp2_with fail
    go_ret
    exact ⟨by simp [h0], rfl⟩
theorem far_yes {x : Int} (h : farB x = true) : 0 ≤ x ∧ x ≤ 1000000 := by unfold farB at h; simpa using h
theorem post_no {p a c len d : Int} (hp : 0 ≤ p) (h : ((decide (p ≤ a) && decide (a ≤ 1000000)) && (decide (0 ≤ c) && decide (c < len)) && (decide (d = 1) || decide (d = -1))) = false) :
    farB a = false ∨ (farB a = true ∧ decide (a < p) = true) ∨ (farB a = true ∧ decide (a < p) = false ∧ decide (c < 0) = true) ∨ (farB a = true ∧ decide (a < p) = false ∧ decide (c < 0) = false ∧ decide (c ≥ len) = true) ∨ (farB a = true ∧ decide (a < p) = false ∧ decide (c < 0) = false ∧ decide (c ≥ len) = false ∧ (d != 1) = true ∧ (d != -1) = true) := by
  cases hf : farB a
  · exact .inl rfl
  · refine .inr ?_
    have hf := far_yes hf
    by_cases h1 : a < p
    · exact .inl ⟨rfl, decide_eq_true h1⟩
    · refine .inr ?_
      by_cases h2 : c < 0
      · exact .inl ⟨rfl, decide_eq_false h1, decide_eq_true h2⟩
      · refine .inr ?_
        by_cases h3 : c ≥ len
        · exact .inl ⟨rfl, decide_eq_false h1, decide_eq_false h2, decide_eq_true h3⟩
        · refine .inr ⟨rfl, decide_eq_false h1, decide_eq_false h2, decide_eq_false h3, ?_⟩
          rw [decide_eq_true (show p ≤ a by omega), decide_eq_true hf.2, decide_eq_true (show 0 ≤ c by omega), decide_eq_true (show c < len by omega)] at h
          simp at h
          simp [h]
theorem post_yes {p a c len d : Int} (hp : 0 ≤ p) (h : ((decide (p ≤ a) && decide (a ≤ 1000000)) && (decide (0 ≤ c) && decide (c < len)) && (decide (d = 1) || decide (d = -1))) = true) :
    farB a = true ∧ decide (a < p) = false ∧ decide (c < 0) = false ∧ decide (c ≥ len) = false ∧ ((d != 1) = false ∨ ((d != 1) = true ∧ (d != -1) = false)) := by
  simp only [Bool.and_eq_true, Bool.or_eq_true, decide_eq_true_eq] at h
  obtain ⟨⟨⟨h1, h2⟩, h3, h4⟩, h5⟩ := h
  refine ⟨by unfold farB; simp; omega, decide_eq_false (by omega), decide_eq_false (by omega), decide_eq_false (by omega), ?_⟩
  rcases h5 with rfl | rfl
  · exact .inl rfl
  · exact .inr ⟨rfl, rfl⟩
theorem bad_to {fr tt : Int} (h0 : 0 ≤ fr) (h : (decide (0 ≤ tt) && decide (tt ≤ 1000000)) = false) : (decide (fr ≤ tt) && decide (tt ≤ 1000000)) = false := by
  by_cases h1 : fr ≤ tt
  · rw [decide_eq_true (show 0 ≤ tt by omega), Bool.true_and] at h
    rw [h, Bool.and_false]
  · rw [decide_eq_false h1]; rfl
theorem prevP_pos {l : List S88} {ps : List S143} : ∀ {i : Nat}, postsTo l ps i = true → 0 ≤ prevP ps i
  | 0, _ => Int.le_refl _
  | i + 1, h => (post_in h i (Nat.lt_succ_self i)).1
theorem prevA_pos {ax : List Int} : ∀ {i : Nat}, axlesTo ax i = true → 0 ≤ prevA ax i
  | 0, _ => Int.le_refl _
  | i + 1, h => (axle_in h i (Nat.lt_succ_self i)).1
theorem axle_no {p a : Int} (hp : 0 ≤ p) (h : (decide (p ≤ a) && decide (a ≤ 1000000)) = false) : farB a = false ∨ (farB a = true ∧ decide (a < p) = true) := by
  cases hf : farB a
  · exact .inl rfl
  · have hf := far_yes hf
    refine .inr ⟨rfl, ?_⟩
    by_cases h1 : a < p
    · exact decide_eq_true h1
    · rw [decide_eq_true (show p ≤ a by omega), decide_eq_true hf.2] at h
      cases h
theorem axle_yes {p a : Int} (hp : 0 ≤ p) (h : (decide (p ≤ a) && decide (a ≤ 1000000)) = true) : farB a = true ∧ decide (a < p) = false := by
  simp only [Bool.and_eq_true, decide_eq_true_eq] at h
  exact ⟨by unfold farB; simp; omega, decide_eq_false (by omega)⟩
section
variable {w : World} {base m c : Nat} {ok : Nat → Prop} {xs : List S154} {A : Option Addr}
theorem sort_any (h : Kd.R k154 146 w base ok (.slice A m c) xs) (hx : xs.Nodup) (hb : ∀ x ∈ xs, BdM x) (hl : xs.length ≤ 1000000) :
    Calls Try.prog 120 #[.slice A m c, .func (.func 121) #[] #[]] w fun e w' => e = .returned (.tuple #[]) ∧ Kd.R k154 146 w' base ok (.slice A m c) (sortM xs) ∧ w.grownBy w' (Value.slice A m c).ownBlock := by
  cases xs with
  | nil =>
    have hm : m = 0 := (Kd.R_reads' h).1
    subst hm
    refine (sort_none A c w).mono ?_
    rintro e w' ⟨rfl, rfl⟩
    exact ⟨rfl, h, World.grownBy.refl _ _⟩
  | cons x xs =>
    obtain ⟨g, cg, e, -⟩ := Kd.R_form h (by simp)
    have hm := (Kd.R_reads' h).1
    cases e
    exact sort_is h hx hb hl
end
set_option maxHeartbeats 32000000 in
set_option maxRecDepth 100000 in
theorem ipass_no0 (n : Int) (A : Option Addr) (c : Nat) (l : List S88) (A1 : Option Addr) (c1 : Nat) (ps : List S143) (A2 : Option Addr) (c2 : Nat) (ax : List Int) (fr tt : Int) (w : World) (hr : Kd.C k88 w A l.length l) (hc : l.length ≤ c) (hr1 : Kd.C k143 w A1 ps.length ps) (hc1 : ps.length ≤ c1) (hr2 : Kd.C (Kd.int .i64) w A2 ax.length ax) (hc2 : ax.length ≤ c2) (hp : ps.length ≤ 1048576) (ha : ax.length ≤ 1048576) (k0 : Int) (t0 : layoutOk n l = k0) (hk0 : (k0 != 0) = true) :
    Calls Try.prog 75 #[.agg #[.int .i64 n, .slice A l.length c], .slice A1 ps.length c1, .slice A2 ax.length c2, .int .i64 fr, .int .i64 tt] w fun e w' => ∃ v0_ : Value, e = .returned v0_ ∧ Kd.R k56 56 w' w.heap.size (fun _ => True) v0_ ([]) ∧ Below w.heap.size w w' := by
  have HR := Aside0.mk hr
  have HC := Aside0.mk hc
  have HR1 := Aside0.mk hr1
  have HC1 := Aside0.mk hc1
  have HR2 := Aside0.mk hr2
  have HC2 := Aside0.mk hc2
  have T0 := Aside0.mk t0
  clear hr hc hr1 hc1 hr2 hc2 t0
  go_enter Try.func75, Try.ntmps75
  go_upto_region 2 with ((with_reducible refine gate_dst (N := 5) rfl ?_); refine box_event ?hg (N := 5) ?hd (cs := #[.int .i64 n, .slice A l.length c]) (t := 30) ?hr ?_; (case hd => rfl); (case hg => rfl); (case hr => first | (go_simp; done) | (go_simp; rfl)); intro gl el wl kl bl; clear el; have KL := Aside0.mk kl; have BL := Aside0.mk bl; clear kl bl)
  have kl0 : wl.cell? ⟨gl, 0, none⟩ = some (.int .i64 n) := (blk_cell KL.out 0).trans rfl
  have kl1 : wl.cell? ⟨gl, 1, none⟩ = some (.slice A l.length c) := (blk_cell KL.out 1).trans rfl
  go_wp2_with (first | (go_at_call 25; refine (lay_at T0.out (Kd.C_below HR.out BL.out) HC.out).mono ?_; rintro e w1 ⟨rfl, hb⟩; have KL := Aside0.mk (blk_below KL.out hb); have BL := Aside0.mk (below_step BL.out hb); clear hb kl0 kl1))
  go_ret
  exact ⟨_, rfl, Kd.R_nil _ _ _ _ _, BL.out⟩
set_option maxHeartbeats 32000000 in
set_option maxRecDepth 100000 in
theorem ipass_no1 (n : Int) (A : Option Addr) (c : Nat) (l : List S88) (A1 : Option Addr) (c1 : Nat) (ps : List S143) (A2 : Option Addr) (c2 : Nat) (ax : List Int) (fr tt : Int) (w : World) (hr : Kd.C k88 w A l.length l) (hc : l.length ≤ c) (hr1 : Kd.C k143 w A1 ps.length ps) (hc1 : ps.length ≤ c1) (hr2 : Kd.C (Kd.int .i64) w A2 ax.length ax) (hc2 : ax.length ≤ c2) (hp : ps.length ≤ 1048576) (ha : ax.length ≤ 1048576) (t0 : layoutOk n l = 0) (t1 : 120 < ps.length) :
    Calls Try.prog 75 #[.agg #[.int .i64 n, .slice A l.length c], .slice A1 ps.length c1, .slice A2 ax.length c2, .int .i64 fr, .int .i64 tt] w fun e w' => ∃ v0_ : Value, e = .returned v0_ ∧ Kd.R k56 56 w' w.heap.size (fun _ => True) v0_ ([]) ∧ Below w.heap.size w w' := by
  have HR := Aside0.mk hr
  have HC := Aside0.mk hc
  have HR1 := Aside0.mk hr1
  have HC1 := Aside0.mk hc1
  have HR2 := Aside0.mk hr2
  have HC2 := Aside0.mk hc2
  have T0 := Aside0.mk t0
  clear hr hc hr1 hc1 hr2 hc2 t0
  have d1 : decide ((120 : Int) < (ps.length : Int)) = true := decide_eq_true (by omega)
  have d1' : decide ((ps.length : Int) > 120) = true := d1
  go_enter Try.func75, Try.ntmps75
  go_upto_region 2 with ((with_reducible refine gate_dst (N := 5) rfl ?_); refine box_event ?hg (N := 5) ?hd (cs := #[.int .i64 n, .slice A l.length c]) (t := 30) ?hr ?_; (case hd => rfl); (case hg => rfl); (case hr => first | (go_simp; done) | (go_simp; rfl)); intro gl el wl kl bl; clear el; have KL := Aside0.mk kl; have BL := Aside0.mk bl; clear kl bl)
  have kl0 : wl.cell? ⟨gl, 0, none⟩ = some (.int .i64 n) := (blk_cell KL.out 0).trans rfl
  have kl1 : wl.cell? ⟨gl, 1, none⟩ = some (.slice A l.length c) := (blk_cell KL.out 1).trans rfl
  go_wp2_with (first | (go_at_call 25; refine (lay_at T0.out (Kd.C_below HR.out BL.out) HC.out).mono ?_; rintro e w1 ⟨rfl, hb⟩; have KL := Aside0.mk (blk_below KL.out hb); have BL := Aside0.mk (below_step BL.out hb); clear hb kl0 kl1))
  go_ret
  exact ⟨_, rfl, Kd.R_nil _ _ _ _ _, BL.out⟩
set_option maxHeartbeats 32000000 in
set_option maxRecDepth 100000 in
theorem ipass_no2 (n : Int) (A : Option Addr) (c : Nat) (l : List S88) (A1 : Option Addr) (c1 : Nat) (ps : List S143) (A2 : Option Addr) (c2 : Nat) (ax : List Int) (fr tt : Int) (w : World) (hr : Kd.C k88 w A l.length l) (hc : l.length ≤ c) (hr1 : Kd.C k143 w A1 ps.length ps) (hc1 : ps.length ≤ c1) (hr2 : Kd.C (Kd.int .i64) w A2 ax.length ax) (hc2 : ax.length ≤ c2) (hp : ps.length ≤ 1048576) (ha : ax.length ≤ 1048576) (t0 : layoutOk n l = 0) (t1 : ps.length ≤ 120) (t2 : 200 < ax.length) :
    Calls Try.prog 75 #[.agg #[.int .i64 n, .slice A l.length c], .slice A1 ps.length c1, .slice A2 ax.length c2, .int .i64 fr, .int .i64 tt] w fun e w' => ∃ v0_ : Value, e = .returned v0_ ∧ Kd.R k56 56 w' w.heap.size (fun _ => True) v0_ ([]) ∧ Below w.heap.size w w' := by
  have HR := Aside0.mk hr
  have HC := Aside0.mk hc
  have HR1 := Aside0.mk hr1
  have HC1 := Aside0.mk hc1
  have HR2 := Aside0.mk hr2
  have HC2 := Aside0.mk hc2
  have T0 := Aside0.mk t0
  clear hr hc hr1 hc1 hr2 hc2 t0
  have d1 : decide ((120 : Int) < (ps.length : Int)) = false := decide_eq_false (by omega)
  have d1' : decide ((ps.length : Int) > 120) = false := d1
  have d2 : decide ((200 : Int) < (ax.length : Int)) = true := decide_eq_true (by omega)
  have d2' : decide ((ax.length : Int) > 200) = true := d2
  have P1 := Aside0.mk t1
  go_enter Try.func75, Try.ntmps75
  go_upto_region 2 with ((with_reducible refine gate_dst (N := 5) rfl ?_); refine box_event ?hg (N := 5) ?hd (cs := #[.int .i64 n, .slice A l.length c]) (t := 30) ?hr ?_; (case hd => rfl); (case hg => rfl); (case hr => first | (go_simp; done) | (go_simp; rfl)); intro gl el wl kl bl; clear el; have KL := Aside0.mk kl; have BL := Aside0.mk bl; clear kl bl)
  have kl0 : wl.cell? ⟨gl, 0, none⟩ = some (.int .i64 n) := (blk_cell KL.out 0).trans rfl
  have kl1 : wl.cell? ⟨gl, 1, none⟩ = some (.slice A l.length c) := (blk_cell KL.out 1).trans rfl
  go_wp2_with (first | (go_at_call 25; refine (lay_at T0.out (Kd.C_below HR.out BL.out) HC.out).mono ?_; rintro e w1 ⟨rfl, hb⟩; have KL := Aside0.mk (blk_below KL.out hb); have BL := Aside0.mk (below_step BL.out hb); clear hb kl0 kl1))
  go_ret
  exact ⟨_, rfl, Kd.R_nil _ _ _ _ _, BL.out⟩
set_option maxHeartbeats 32000000 in
set_option maxRecDepth 100000 in
theorem ipass_no3 (n : Int) (A : Option Addr) (c : Nat) (l : List S88) (A1 : Option Addr) (c1 : Nat) (ps : List S143) (A2 : Option Addr) (c2 : Nat) (ax : List Int) (fr tt : Int) (w : World) (hr : Kd.C k88 w A l.length l) (hc : l.length ≤ c) (hr1 : Kd.C k143 w A1 ps.length ps) (hc1 : ps.length ≤ c1) (hr2 : Kd.C (Kd.int .i64) w A2 ax.length ax) (hc2 : ax.length ≤ c2) (hp : ps.length ≤ 1048576) (ha : ax.length ≤ 1048576) (t0 : layoutOk n l = 0) (t1 : ps.length ≤ 120) (t2 : ax.length ≤ 200) (t3 : farB fr = false) :
    Calls Try.prog 75 #[.agg #[.int .i64 n, .slice A l.length c], .slice A1 ps.length c1, .slice A2 ax.length c2, .int .i64 fr, .int .i64 tt] w fun e w' => ∃ v0_ : Value, e = .returned v0_ ∧ Kd.R k56 56 w' w.heap.size (fun _ => True) v0_ ([]) ∧ Below w.heap.size w w' := by
  have HR := Aside0.mk hr
  have HC := Aside0.mk hc
  have HR1 := Aside0.mk hr1
  have HC1 := Aside0.mk hc1
  have HR2 := Aside0.mk hr2
  have HC2 := Aside0.mk hc2
  have T0 := Aside0.mk t0
  clear hr hc hr1 hc1 hr2 hc2 t0
  have d1 : decide ((120 : Int) < (ps.length : Int)) = false := decide_eq_false (by omega)
  have d1' : decide ((ps.length : Int) > 120) = false := d1
  have d2 : decide ((200 : Int) < (ax.length : Int)) = false := decide_eq_false (by omega)
  have d2' : decide ((ax.length : Int) > 200) = false := d2
  have T3 := Aside0.mk t3
  have P1 := Aside0.mk t1
  have P2 := Aside0.mk t2
  clear t3
  go_enter Try.func75, Try.ntmps75
  go_upto_region 2 with ((with_reducible refine gate_dst (N := 5) rfl ?_); refine box_event ?hg (N := 5) ?hd (cs := #[.int .i64 n, .slice A l.length c]) (t := 30) ?hr ?_; (case hd => rfl); (case hg => rfl); (case hr => first | (go_simp; done) | (go_simp; rfl)); intro gl el wl kl bl; clear el; have KL := Aside0.mk kl; have BL := Aside0.mk bl; clear kl bl)
  have kl0 : wl.cell? ⟨gl, 0, none⟩ = some (.int .i64 n) := (blk_cell KL.out 0).trans rfl
  have kl1 : wl.cell? ⟨gl, 1, none⟩ = some (.slice A l.length c) := (blk_cell KL.out 1).trans rfl
  go_wp2_with (first | (go_at_call 25; refine (lay_at T0.out (Kd.C_below HR.out BL.out) HC.out).mono ?_; rintro e w1 ⟨rfl, hb⟩; have KL := Aside0.mk (blk_below KL.out hb); have BL := Aside0.mk (below_step BL.out hb); clear hb kl0 kl1) | (go_at_call 119; (with_reducible refine (far_at T3.out _).mono ?_); rintro e wz ⟨rfl, hw⟩; obtain rfl := hw.symm))
  go_ret
  exact ⟨_, rfl, Kd.R_nil _ _ _ _ _, BL.out⟩
set_option maxHeartbeats 32000000 in
set_option maxRecDepth 100000 in
theorem ipass_no4 (n : Int) (A : Option Addr) (c : Nat) (l : List S88) (A1 : Option Addr) (c1 : Nat) (ps : List S143) (A2 : Option Addr) (c2 : Nat) (ax : List Int) (fr tt : Int) (w : World) (hr : Kd.C k88 w A l.length l) (hc : l.length ≤ c) (hr1 : Kd.C k143 w A1 ps.length ps) (hc1 : ps.length ≤ c1) (hr2 : Kd.C (Kd.int .i64) w A2 ax.length ax) (hc2 : ax.length ≤ c2) (hp : ps.length ≤ 1048576) (ha : ax.length ≤ 1048576) (t0 : layoutOk n l = 0) (t1 : ps.length ≤ 120) (t2 : ax.length ≤ 200) (t3 : farB fr = true) (t4 : farB tt = false) :
    Calls Try.prog 75 #[.agg #[.int .i64 n, .slice A l.length c], .slice A1 ps.length c1, .slice A2 ax.length c2, .int .i64 fr, .int .i64 tt] w fun e w' => ∃ v0_ : Value, e = .returned v0_ ∧ Kd.R k56 56 w' w.heap.size (fun _ => True) v0_ ([]) ∧ Below w.heap.size w w' := by
  have HR := Aside0.mk hr
  have HC := Aside0.mk hc
  have HR1 := Aside0.mk hr1
  have HC1 := Aside0.mk hc1
  have HR2 := Aside0.mk hr2
  have HC2 := Aside0.mk hc2
  have T0 := Aside0.mk t0
  clear hr hc hr1 hc1 hr2 hc2 t0
  have d1 : decide ((120 : Int) < (ps.length : Int)) = false := decide_eq_false (by omega)
  have d1' : decide ((ps.length : Int) > 120) = false := d1
  have d2 : decide ((200 : Int) < (ax.length : Int)) = false := decide_eq_false (by omega)
  have d2' : decide ((ax.length : Int) > 200) = false := d2
  have T3 := Aside0.mk t3
  have T4 := Aside0.mk t4
  have P1 := Aside0.mk t1
  have P2 := Aside0.mk t2
  clear t3 t4
  go_enter Try.func75, Try.ntmps75
  go_upto_region 2 with ((with_reducible refine gate_dst (N := 5) rfl ?_); refine box_event ?hg (N := 5) ?hd (cs := #[.int .i64 n, .slice A l.length c]) (t := 30) ?hr ?_; (case hd => rfl); (case hg => rfl); (case hr => first | (go_simp; done) | (go_simp; rfl)); intro gl el wl kl bl; clear el; have KL := Aside0.mk kl; have BL := Aside0.mk bl; clear kl bl)
  have kl0 : wl.cell? ⟨gl, 0, none⟩ = some (.int .i64 n) := (blk_cell KL.out 0).trans rfl
  have kl1 : wl.cell? ⟨gl, 1, none⟩ = some (.slice A l.length c) := (blk_cell KL.out 1).trans rfl
  go_wp2_with (first | (go_at_call 25; refine (lay_at T0.out (Kd.C_below HR.out BL.out) HC.out).mono ?_; rintro e w1 ⟨rfl, hb⟩; have KL := Aside0.mk (blk_below KL.out hb); have BL := Aside0.mk (below_step BL.out hb); clear hb kl0 kl1) | (go_at_call 119; (with_reducible refine (far_at T3.out _).mono ?_); rintro e wz ⟨rfl, hw⟩; obtain rfl := hw.symm) | (go_at_call 119; (with_reducible refine (far_at T4.out _).mono ?_); rintro e wz ⟨rfl, hw⟩; obtain rfl := hw.symm))
  go_ret
  exact ⟨_, rfl, Kd.R_nil _ _ _ _ _, BL.out⟩
set_option maxHeartbeats 32000000 in
set_option maxRecDepth 100000 in
theorem ipass_no5 (n : Int) (A : Option Addr) (c : Nat) (l : List S88) (A1 : Option Addr) (c1 : Nat) (ps : List S143) (A2 : Option Addr) (c2 : Nat) (ax : List Int) (fr tt : Int) (w : World) (hr : Kd.C k88 w A l.length l) (hc : l.length ≤ c) (hr1 : Kd.C k143 w A1 ps.length ps) (hc1 : ps.length ≤ c1) (hr2 : Kd.C (Kd.int .i64) w A2 ax.length ax) (hc2 : ax.length ≤ c2) (hp : ps.length ≤ 1048576) (ha : ax.length ≤ 1048576) (t0 : layoutOk n l = 0) (t1 : ps.length ≤ 120) (t2 : ax.length ≤ 200) (t3 : farB fr = true) (t4 : farB tt = true) (t5 : tt < fr) :
    Calls Try.prog 75 #[.agg #[.int .i64 n, .slice A l.length c], .slice A1 ps.length c1, .slice A2 ax.length c2, .int .i64 fr, .int .i64 tt] w fun e w' => ∃ v0_ : Value, e = .returned v0_ ∧ Kd.R k56 56 w' w.heap.size (fun _ => True) v0_ ([]) ∧ Below w.heap.size w w' := by
  have HR := Aside0.mk hr
  have HC := Aside0.mk hc
  have HR1 := Aside0.mk hr1
  have HC1 := Aside0.mk hc1
  have HR2 := Aside0.mk hr2
  have HC2 := Aside0.mk hc2
  have T0 := Aside0.mk t0
  clear hr hc hr1 hc1 hr2 hc2 t0
  have d1 : decide ((120 : Int) < (ps.length : Int)) = false := decide_eq_false (by omega)
  have d1' : decide ((ps.length : Int) > 120) = false := d1
  have d2 : decide ((200 : Int) < (ax.length : Int)) = false := decide_eq_false (by omega)
  have d2' : decide ((ax.length : Int) > 200) = false := d2
  have T3 := Aside0.mk t3
  have T4 := Aside0.mk t4
  have d5 : decide (tt < fr) = true := decide_eq_true (by omega)
  have T5 := Aside0.mk t5
  have P1 := Aside0.mk t1
  have P2 := Aside0.mk t2
  clear t3 t4 t5
  go_enter Try.func75, Try.ntmps75
  go_upto_region 2 with ((with_reducible refine gate_dst (N := 5) rfl ?_); refine box_event ?hg (N := 5) ?hd (cs := #[.int .i64 n, .slice A l.length c]) (t := 30) ?hr ?_; (case hd => rfl); (case hg => rfl); (case hr => first | (go_simp; done) | (go_simp; rfl)); intro gl el wl kl bl; clear el; have KL := Aside0.mk kl; have BL := Aside0.mk bl; clear kl bl)
  have kl0 : wl.cell? ⟨gl, 0, none⟩ = some (.int .i64 n) := (blk_cell KL.out 0).trans rfl
  have kl1 : wl.cell? ⟨gl, 1, none⟩ = some (.slice A l.length c) := (blk_cell KL.out 1).trans rfl
  go_wp2_with (first | (go_at_call 25; refine (lay_at T0.out (Kd.C_below HR.out BL.out) HC.out).mono ?_; rintro e w1 ⟨rfl, hb⟩; have KL := Aside0.mk (blk_below KL.out hb); have BL := Aside0.mk (below_step BL.out hb); clear hb kl0 kl1) | (go_at_call 119; (with_reducible refine (far_at T3.out _).mono ?_); rintro e wz ⟨rfl, hw⟩; obtain rfl := hw.symm) | (go_at_call 119; (with_reducible refine (far_at T4.out _).mono ?_); rintro e wz ⟨rfl, hw⟩; obtain rfl := hw.symm))
  go_ret
  exact ⟨_, rfl, Kd.R_nil _ _ _ _ _, BL.out⟩
set_option maxHeartbeats 32000000 in
set_option maxRecDepth 100000 in
theorem ipass_yes (n : Int) (A : Option Addr) (c : Nat) (l : List S88) (A1 : Option Addr) (c1 : Nat) (ps : List S143) (A2 : Option Addr) (c2 : Nat) (ax : List Int) (fr tt : Int) (w : World) (hr : Kd.C k88 w A l.length l) (hc : l.length ≤ c) (hr1 : Kd.C k143 w A1 ps.length ps) (hc1 : ps.length ≤ c1) (hr2 : Kd.C (Kd.int .i64) w A2 ax.length ax) (hc2 : ax.length ≤ c2) (hp : ps.length ≤ 1048576) (ha : ax.length ≤ 1048576) (t0 : layoutOk n l = 0) (t1 : ps.length ≤ 120) (t2 : ax.length ≤ 200) (t3 : farB fr = true) (t4 : farB tt = true) (t5 : fr ≤ tt) :
    Calls Try.prog 75 #[.agg #[.int .i64 n, .slice A l.length c], .slice A1 ps.length c1, .slice A2 ax.length c2, .int .i64 fr, .int .i64 tt] w fun e w' => ∃ v0_ : Value, e = .returned v0_ ∧ Kd.R k56 56 w' w.heap.size (fun _ => True) v0_ (if (postsTo l ps ps.length && axlesTo ax ax.length) = true then trainEvs ps ax fr tt else []) ∧ Below w.heap.size w w' := by
  have HR := Aside0.mk hr
  have HC := Aside0.mk hc
  have HR1 := Aside0.mk hr1
  have HC1 := Aside0.mk hc1
  have HR2 := Aside0.mk hr2
  have HC2 := Aside0.mk hc2
  have T0 := Aside0.mk t0
  clear hr hc hr1 hc1 hr2 hc2 t0
  have d1 : decide ((120 : Int) < (ps.length : Int)) = false := decide_eq_false (by omega)
  have d1' : decide ((ps.length : Int) > 120) = false := d1
  have d2 : decide ((200 : Int) < (ax.length : Int)) = false := decide_eq_false (by omega)
  have d2' : decide ((ax.length : Int) > 200) = false := d2
  have T3 := Aside0.mk t3
  have T4 := Aside0.mk t4
  have d5 : decide (tt < fr) = false := decide_eq_false (by omega)
  have T5 := Aside0.mk t5
  have P1 := Aside0.mk t1
  have P2 := Aside0.mk t2
  clear t3 t4 t5
  obtain ⟨res, hres⟩ : ∃ res, res = (if (postsTo l ps ps.length && axlesTo ax ax.length) = true then trainEvs ps ax fr tt else []) := ⟨_, rfl⟩
  rw [← hres]
  have RES := Aside0.mk hres
  clear hres
  go_enter Try.func75, Try.ntmps75
  go_upto_region 2 with ((with_reducible refine gate_dst (N := 5) rfl ?_); refine box_event ?hg (N := 5) ?hd (cs := #[.int .i64 n, .slice A l.length c]) (t := 30) ?hr ?_; (case hd => rfl); (case hg => rfl); (case hr => first | (go_simp; done) | (go_simp; rfl)); intro gl el wl kl bl; clear el; have KL := Aside0.mk kl; have BL := Aside0.mk bl; clear kl bl)
  have kl0 : wl.cell? ⟨gl, 0, none⟩ = some (.int .i64 n) := (blk_cell KL.out 0).trans rfl
  have kl1 : wl.cell? ⟨gl, 1, none⟩ = some (.slice A l.length c) := (blk_cell KL.out 1).trans rfl
  go_upto_region 4 with (first | (go_at_call 25; refine (lay_at T0.out (Kd.C_below HR.out BL.out) HC.out).mono ?_; rintro e w1 ⟨rfl, hb⟩; have KL := Aside0.mk (blk_below KL.out hb); have BL := Aside0.mk (below_step BL.out hb); clear hb kl0 kl1) | (go_at_call 119; (with_reducible refine (far_at T3.out _).mono ?_); rintro e wz ⟨rfl, hw⟩; obtain rfl := hw.symm) | (go_at_call 119; (with_reducible refine (far_at T4.out _).mono ?_); rintro e wz ⟨rfl, hw⟩; obtain rfl := hw.symm))
  have HR1 := Aside0.mk (Kd.C_below HR1.out BL.out)
  have HR2 := Aside0.mk (Kd.C_below HR2.out BL.out)
  clear d1 d1' d2 d2' d5
  go_wp2_with fail
  go_loopg [57] ps.length (fun kq v57 w' => ∃ i : Nat, v57 = .int .i64 i ∧ Aside0 (i + kq = ps.length) ∧ Aside0 (postsTo l ps i = true) ∧ Aside0 (Below w1.heap.size w1 w'))
  case atStart => exact ⟨0, rfl, ⟨by omega⟩, ⟨rfl⟩, ⟨Below.refl _ _⟩⟩
  case round =>
    obtain ⟨i, rfl, HI, HT, HB⟩ := hrel
    by_cases hlt : i < ps.length
    · cases gk with
      | zero => exact absurd HI.out (by omega)
      | succ go1 =>
      have hlt' : decide ((i : Int) < (ps.length : Int)) = true := decide_eq_true (by omega)
      have q0 : (0 : Int) ≤ (i : Int) := by omega
      obtain ⟨adp, e, x0, x1, x2⟩ := at_T143 HR1.out (i : Int) q0 (by omega)
      cases e
      rw [Int.toNat_natCast] at x0 x1 x2
      have HPV := Aside0.mk (prevP_pos HT.out)
      have HPA := Aside0.mk (show postAt l ps i = ((decide (prevP ps i ≤ (rd_T143 ps (i : Int)).f0) && decide ((rd_T143 ps (i : Int)).f0 ≤ 1000000)) && (decide (0 ≤ (rd_T143 ps (i : Int)).f1) && decide ((rd_T143 ps (i : Int)).f1 < (l.length : Int))) && (decide ((rd_T143 ps (i : Int)).f2 = 1) || decide ((rd_T143 ps (i : Int)).f2 = -1))) from rfl)
      have HS := Aside0.mk (show postsTo l ps (i + 1) = (postsTo l ps i && postAt l ps i) from rfl)
      have HF := Aside0.mk (fun (h : postAt l ps i = false) => (show postsTo l ps ps.length = false from by
        have e1 : postsTo l ps (i + 1) = false := by rw [HS.out, h, Bool.and_false]
        have h2 := postsTo_false e1 go1
        rwa [show i + 1 + go1 = ps.length by have := HI.out; omega] at h2))
      generalize rd_T143 ps (i : Int) = x at x0 x1 x2 HPA
      replace x0 := pw_cell_below HB.out x0
      replace x1 := pw_cell_below HB.out x1
      replace x2 := pw_cell_below HB.out x2
      go_upto_region 7 with ((with_reducible refine gate_dst (N := 13) rfl ?_); refine box_event ?hg (N := 13) ?hd (cs := #[.int .i64 0, .int .i64 0, .int .i64 0]) (t := 143) ?hr ?_; (case hd => rfl); (case hg => rfl); (case hr => first | (go_simp; done) | (go_simp; rfl)); intro gx ex wx kx bx; have EX := Aside0.mk ex; have KX := Aside0.mk kx; have BX := Aside0.mk bx; clear ex kx bx; have kx0 : wx.cell? ⟨gx, 0, none⟩ = some (.int .i64 0) := (blk_cell KX.out 0).trans rfl; have zkx0 := blk_frozen KX.out 0; have kx1 : wx.cell? ⟨gx, 1, none⟩ = some (.int .i64 0) := (blk_cell KX.out 1).trans rfl; have zkx1 := blk_frozen KX.out 1; have kx2 : wx.cell? ⟨gx, 2, none⟩ = some (.int .i64 0) := (blk_cell KX.out 2).trans rfl; have zkx2 := blk_frozen KX.out 2)
      have FX := Aside0.mk (fill3t (y0 := .int .i64 x.f0) (y1 := .int .i64 x.f1) (y2 := .int .i64 x.f2) KX.out BX.out (Nat.le_of_eq EX.out.symm))
      clear kx0 zkx0 kx1 zkx1 kx2 zkx2 KX BX EX x0 x1 x2
      generalize (((wx.setCell ⟨gx, 0, none⟩ (.int .i64 x.f0)).setCell ⟨gx, 1, none⟩ (.int .i64 x.f1)).setCell ⟨gx, 2, none⟩ (.int .i64 x.f2)) = w6 at FX ⊢
      have HB := Aside0.mk (below_drew1 (below_step HB.out FX.out.1))
      have KX := Aside0.mk (blk_drew FX.out.2)
      clear FX
      have kx0 : w6.drew.cell? ⟨gx, 0, none⟩ = some (.int .i64 x.f0) := (blk_cell KX.out 0).trans rfl
      have kx1 : w6.drew.cell? ⟨gx, 1, none⟩ = some (.int .i64 x.f1) := (blk_cell KX.out 1).trans rfl
      have kx2 : w6.drew.cell? ⟨gx, 2, none⟩ = some (.int .i64 x.f2) := (blk_cell KX.out 2).trans rfl
      have kl1 : w6.drew.cell? ⟨gl, 1, none⟩ = some (.slice A l.length c) := (blk_cell (blk_below KL.out HB.out) 1).trans rfl
      have W1 := Aside0.mk (show wrap64 ((i : Int) + 1) = ((i + 1 : Nat) : Int) from (wrap_id (by omega) (by have := P1.out; omega)).trans (by omega))
      by_cases hi0 : i = 0
      · have hgt : ¬ 0 < i := by omega
        have hgt' : decide ((i : Int) > 0) = false := decide_eq_false (by omega)
        have HI0 := Aside0.mk hi0
        clear hi0
        cases hpe : postAt l ps i
        · have HPE := Aside0.mk hpe
          clear hpe
          have hway := post_no HPV.out (HPA.out.symm.trans HPE.out)
          rcases hway with hfb | ⟨hfb, h1⟩ | ⟨hfb, h1, h2⟩ | ⟨hfb, h1, h2, h3⟩ | ⟨hfb, h1, h2, h3, h4, h5⟩
          rotate_left
          · exact absurd (far_yes hfb).1 (by rw [HI0.out] at h1; have h1 : x.f0 < 0 := of_decide_eq_true h1; omega)
          all_goals
            refine startK 43 (S := fun w' => w'.cell? ⟨gx, 0, none⟩ = some (.int .i64 x.f0) ∧ w'.cell? ⟨gx, 1, none⟩ = some (.int .i64 x.f1) ∧ w'.cell? ⟨gx, 2, none⟩ = some (.int .i64 x.f2) ∧ w'.cell? ⟨gl, 1, none⟩ = some (.slice A l.length c)) (ds := []) (by kernel_rfl) rfl ⟨kx0, kx1, kx2, kl1⟩ (fun hHeld => ?_)
            refine with_tabW ip_tab7 ip_bits7 (fun HT_ HW_ => ?_)
            repeat (first
              | (refine take0 (v := ?_) (a' := ?_) (by simp only [Nat.reduceAdd]; rfl) (by rfl) HT_.out HW_.out (by kernel_rfl) (by exact fun _ _ _ h => h) hHeld ?_ ?_ ?_; rotate_left 2; (· rintro w' ⟨s0, s1, s2, s3⟩; go_simp; with_reducible rfl); (· simp only [Act.put, List.setIfInBounds_toArray, List.set_cons_zero, List.set_cons_succ, i64_w, i32_w]; rfl))
              | (refine takeG (v := ?_) (a' := ?_) (by simp only [Nat.reduceAdd]; rfl) (by rfl) (by rfl) HT_.out HW_.out (by kernel_rfl) (by exact fun _ _ _ h => h) hHeld ?_ ?_ ?_; rotate_left 2; (· first | (rw [if_neg (by decide)]; done) | (rw [if_pos (by decide)]; rintro w' ⟨s0, s1, s2, s3⟩; go_simp; with_reducible rfl)); (· simp only [Act.put, List.setIfInBounds_toArray, List.set_cons_zero, List.set_cons_succ, i64_w, i32_w]; rfl))
              | (refine takeU (a' := ?_) (by simp only [Nat.reduceAdd]; rfl) (by rfl) (by rfl) HT_.out HW_.out (by kernel_rfl) (by exact fun _ _ _ h => h) hHeld ?_ ?_; rotate_left; (· simp only [Act.put, List.setIfInBounds_toArray, List.set_cons_zero, List.set_cons_succ, i64_w, i32_w]; rfl))
              | (refine oneK (by simp only [Nat.reduceAdd]; rfl) (by rfl) HT_.out (by kernel_rfl) (by decide) (fun K hK => ?_); refine goesV_ Try.func119 (by kernel_rfl) rfl #[.int .i64 x.f0] (by rfl) rfl rfl (by rfl) (by (try simp only [List.map_toArray, List.map_cons, List.map_nil]); first | done | rfl) ?_; ((with_reducible refine (far_at hfb _).mono ?_); rintro e w' ⟨rfl, rfl⟩); refine ⟨_, rfl, ?_⟩; refine hK.out _ _ hHeld (fun hHeld => ?_); clear hK K; refine norm_ (a' := ?_) ?_ ?_; rotate_left; · simp only [Act.put, List.setIfInBounds_toArray, List.set_cons_zero, List.set_cons_succ, i64_w, i32_w]; rfl))
            refine done_ (done_of HT_.out (by kernel_rfl)) ?_
            go_wp2_with fail
            go_ret
            exact ⟨_, rfl, by rw [RES.out, if_neg (by simp [HF.out HPE.out])]; exact Kd.R_nil _ _ _ _ _, below_step BL.out HB.out⟩
        · have HPE := Aside0.mk hpe
          clear hpe
          obtain ⟨hfb, h1, h2, h3, hd⟩ := post_yes HPV.out (HPA.out.symm.trans HPE.out)
          rcases hd with h4 | ⟨h4, h5⟩
          all_goals
            refine startK 43 (S := fun w' => w'.cell? ⟨gx, 0, none⟩ = some (.int .i64 x.f0) ∧ w'.cell? ⟨gx, 1, none⟩ = some (.int .i64 x.f1) ∧ w'.cell? ⟨gx, 2, none⟩ = some (.int .i64 x.f2) ∧ w'.cell? ⟨gl, 1, none⟩ = some (.slice A l.length c)) (ds := []) (by kernel_rfl) rfl ⟨kx0, kx1, kx2, kl1⟩ (fun hHeld => ?_)
            refine with_tabW ip_tab7 ip_bits7 (fun HT_ HW_ => ?_)
            repeat (first
              | (refine take0 (v := ?_) (a' := ?_) (by simp only [Nat.reduceAdd]; rfl) (by rfl) HT_.out HW_.out (by kernel_rfl) (by exact fun _ _ _ h => h) hHeld ?_ ?_ ?_; rotate_left 2; (· rintro w' ⟨s0, s1, s2, s3⟩; go_simp; with_reducible rfl); (· simp only [Act.put, List.setIfInBounds_toArray, List.set_cons_zero, List.set_cons_succ, i64_w, i32_w]; rfl))
              | (refine takeG (v := ?_) (a' := ?_) (by simp only [Nat.reduceAdd]; rfl) (by rfl) (by rfl) HT_.out HW_.out (by kernel_rfl) (by exact fun _ _ _ h => h) hHeld ?_ ?_ ?_; rotate_left 2; (· first | (rw [if_neg (by decide)]; done) | (rw [if_pos (by decide)]; rintro w' ⟨s0, s1, s2, s3⟩; go_simp; with_reducible rfl)); (· simp only [Act.put, List.setIfInBounds_toArray, List.set_cons_zero, List.set_cons_succ, i64_w, i32_w]; rfl))
              | (refine takeU (a' := ?_) (by simp only [Nat.reduceAdd]; rfl) (by rfl) (by rfl) HT_.out HW_.out (by kernel_rfl) (by exact fun _ _ _ h => h) hHeld ?_ ?_; rotate_left; (· simp only [Act.put, List.setIfInBounds_toArray, List.set_cons_zero, List.set_cons_succ, i64_w, i32_w]; rfl))
              | (refine oneK (by simp only [Nat.reduceAdd]; rfl) (by rfl) HT_.out (by kernel_rfl) (by decide) (fun K hK => ?_); refine goesV_ Try.func119 (by kernel_rfl) rfl #[.int .i64 x.f0] (by rfl) rfl rfl (by rfl) (by (try simp only [List.map_toArray, List.map_cons, List.map_nil]); first | done | rfl) ?_; ((with_reducible refine (far_at hfb _).mono ?_); rintro e w' ⟨rfl, rfl⟩); refine ⟨_, rfl, ?_⟩; refine hK.out _ _ hHeld (fun hHeld => ?_); clear hK K; refine norm_ (a' := ?_) ?_ ?_; rotate_left; · simp only [Act.put, List.setIfInBounds_toArray, List.set_cons_zero, List.set_cons_succ, i64_w, i32_w]; rfl))
            refine done_ (done_of HT_.out (by kernel_rfl)) ?_
            go_wp2_with fail
            go_roundg go1
            case measure => omega
            case rel => exact ⟨i + 1, congrArg (Value.int .i64) (by first | exact W1.out | omega), ⟨by have := HI.out; omega⟩, ⟨by rw [HS.out, HT.out, HPE.out]; rfl⟩, HB⟩
      · obtain ⟨j, hj⟩ : ∃ j, i = j + 1 := ⟨i - 1, by omega⟩
        have hgt : 0 < i := by omega
        have hgt' : decide ((i : Int) > 0) = true := decide_eq_true (by omega)
        have hw : wrap64 ((i : Int) - 1) = (j : Int) := (wrap_id (by omega) (by have := P1.out; omega)).trans (by omega)
        have hw' : IntKind.i64.wrap ((i : Int) - 1) = (j : Int) := (i64_w _).trans hw
        have hjl : j < ps.length := by omega
        have j0 : (0 : Int) ≤ (j : Int) := by omega
        have j1 : decide ((j : Int) < (ps.length : Int)) = true := decide_eq_true (by omega)
        obtain ⟨adq, e, y0, -, -⟩ := at_T143 HR1.out (j : Int) j0 (by omega)
        cases e
        rw [Int.toNat_natCast] at y0
        have hpv : prevP ps i = (rd_T143 ps (j : Int)).f0 := by rw [hj]; rfl
        rw [hpv] at HPV HPA
        generalize (rd_T143 ps (j : Int)).f0 = pv at y0 HPV HPA
        replace y0 := pw_cell_below HB.out y0
        clear hpv hj hi0
        cases hpe : postAt l ps i
        · have HPE := Aside0.mk hpe
          clear hpe
          have hway := post_no HPV.out (HPA.out.symm.trans HPE.out)
          rcases hway with hfb | ⟨hfb, h1⟩ | ⟨hfb, h1, h2⟩ | ⟨hfb, h1, h2, h3⟩ | ⟨hfb, h1, h2, h3, h4, h5⟩
          all_goals
            refine startK 43 (S := fun w' => w'.cell? ⟨gx, 0, none⟩ = some (.int .i64 x.f0) ∧ w'.cell? ⟨gx, 1, none⟩ = some (.int .i64 x.f1) ∧ w'.cell? ⟨gx, 2, none⟩ = some (.int .i64 x.f2) ∧ w'.cell? ⟨gl, 1, none⟩ = some (.slice A l.length c) ∧ w'.cell? (adp.add (j * 3)) = some (.int .i64 pv)) (ds := []) (by kernel_rfl) rfl ⟨kx0, kx1, kx2, kl1, y0⟩ (fun hHeld => ?_)
            refine with_tabW ip_tab7 ip_bits7 (fun HT_ HW_ => ?_)
            repeat (first
              | (refine take0 (v := ?_) (a' := ?_) (by simp only [Nat.reduceAdd]; rfl) (by rfl) HT_.out HW_.out (by kernel_rfl) (by exact fun _ _ _ h => h) hHeld ?_ ?_ ?_; rotate_left 2; (· rintro w' ⟨s0, s1, s2, s3, s4⟩; go_simp; with_reducible rfl); (· simp only [Act.put, List.setIfInBounds_toArray, List.set_cons_zero, List.set_cons_succ, i64_w, i32_w]; rfl))
              | (refine takeG (v := ?_) (a' := ?_) (by simp only [Nat.reduceAdd]; rfl) (by rfl) (by rfl) HT_.out HW_.out (by kernel_rfl) (by exact fun _ _ _ h => h) hHeld ?_ ?_ ?_; rotate_left 2; (· first | (rw [if_neg (by decide)]; done) | (rw [if_pos (by decide)]; rintro w' ⟨s0, s1, s2, s3, s4⟩; go_simp; with_reducible rfl)); (· simp only [Act.put, List.setIfInBounds_toArray, List.set_cons_zero, List.set_cons_succ, i64_w, i32_w]; rfl))
              | (refine takeU (a' := ?_) (by simp only [Nat.reduceAdd]; rfl) (by rfl) (by rfl) HT_.out HW_.out (by kernel_rfl) (by exact fun _ _ _ h => h) hHeld ?_ ?_; rotate_left; (· simp only [Act.put, List.setIfInBounds_toArray, List.set_cons_zero, List.set_cons_succ, i64_w, i32_w]; rfl))
              | (refine oneK (by simp only [Nat.reduceAdd]; rfl) (by rfl) HT_.out (by kernel_rfl) (by decide) (fun K hK => ?_); refine goesV_ Try.func119 (by kernel_rfl) rfl #[.int .i64 x.f0] (by rfl) rfl rfl (by rfl) (by (try simp only [List.map_toArray, List.map_cons, List.map_nil]); first | done | rfl) ?_; ((with_reducible refine (far_at hfb _).mono ?_); rintro e w' ⟨rfl, rfl⟩); refine ⟨_, rfl, ?_⟩; refine hK.out _ _ hHeld (fun hHeld => ?_); clear hK K; refine norm_ (a' := ?_) ?_ ?_; rotate_left; · simp only [Act.put, List.setIfInBounds_toArray, List.set_cons_zero, List.set_cons_succ, i64_w, i32_w]; rfl))
            refine done_ (done_of HT_.out (by kernel_rfl)) ?_
            go_wp2_with fail
            go_ret
            exact ⟨_, rfl, by rw [RES.out, if_neg (by simp [HF.out HPE.out])]; exact Kd.R_nil _ _ _ _ _, below_step BL.out HB.out⟩
        · have HPE := Aside0.mk hpe
          clear hpe
          obtain ⟨hfb, h1, h2, h3, hd⟩ := post_yes HPV.out (HPA.out.symm.trans HPE.out)
          rcases hd with h4 | ⟨h4, h5⟩
          all_goals
            refine startK 43 (S := fun w' => w'.cell? ⟨gx, 0, none⟩ = some (.int .i64 x.f0) ∧ w'.cell? ⟨gx, 1, none⟩ = some (.int .i64 x.f1) ∧ w'.cell? ⟨gx, 2, none⟩ = some (.int .i64 x.f2) ∧ w'.cell? ⟨gl, 1, none⟩ = some (.slice A l.length c) ∧ w'.cell? (adp.add (j * 3)) = some (.int .i64 pv)) (ds := []) (by kernel_rfl) rfl ⟨kx0, kx1, kx2, kl1, y0⟩ (fun hHeld => ?_)
            refine with_tabW ip_tab7 ip_bits7 (fun HT_ HW_ => ?_)
            repeat (first
              | (refine take0 (v := ?_) (a' := ?_) (by simp only [Nat.reduceAdd]; rfl) (by rfl) HT_.out HW_.out (by kernel_rfl) (by exact fun _ _ _ h => h) hHeld ?_ ?_ ?_; rotate_left 2; (· rintro w' ⟨s0, s1, s2, s3, s4⟩; go_simp; with_reducible rfl); (· simp only [Act.put, List.setIfInBounds_toArray, List.set_cons_zero, List.set_cons_succ, i64_w, i32_w]; rfl))
              | (refine takeG (v := ?_) (a' := ?_) (by simp only [Nat.reduceAdd]; rfl) (by rfl) (by rfl) HT_.out HW_.out (by kernel_rfl) (by exact fun _ _ _ h => h) hHeld ?_ ?_ ?_; rotate_left 2; (· first | (rw [if_neg (by decide)]; done) | (rw [if_pos (by decide)]; rintro w' ⟨s0, s1, s2, s3, s4⟩; go_simp; with_reducible rfl)); (· simp only [Act.put, List.setIfInBounds_toArray, List.set_cons_zero, List.set_cons_succ, i64_w, i32_w]; rfl))
              | (refine takeU (a' := ?_) (by simp only [Nat.reduceAdd]; rfl) (by rfl) (by rfl) HT_.out HW_.out (by kernel_rfl) (by exact fun _ _ _ h => h) hHeld ?_ ?_; rotate_left; (· simp only [Act.put, List.setIfInBounds_toArray, List.set_cons_zero, List.set_cons_succ, i64_w, i32_w]; rfl))
              | (refine oneK (by simp only [Nat.reduceAdd]; rfl) (by rfl) HT_.out (by kernel_rfl) (by decide) (fun K hK => ?_); refine goesV_ Try.func119 (by kernel_rfl) rfl #[.int .i64 x.f0] (by rfl) rfl rfl (by rfl) (by (try simp only [List.map_toArray, List.map_cons, List.map_nil]); first | done | rfl) ?_; ((with_reducible refine (far_at hfb _).mono ?_); rintro e w' ⟨rfl, rfl⟩); refine ⟨_, rfl, ?_⟩; refine hK.out _ _ hHeld (fun hHeld => ?_); clear hK K; refine norm_ (a' := ?_) ?_ ?_; rotate_left; · simp only [Act.put, List.setIfInBounds_toArray, List.set_cons_zero, List.set_cons_succ, i64_w, i32_w]; rfl))
            refine done_ (done_of HT_.out (by kernel_rfl)) ?_
            go_wp2_with fail
            go_roundg go1
            case measure => omega
            case rel => exact ⟨i + 1, congrArg (Value.int .i64) (by first | exact W1.out | omega), ⟨by have := HI.out; omega⟩, ⟨by rw [HS.out, HT.out, HPE.out]; rfl⟩, HB⟩
    · have hlt' : decide ((i : Int) < (ps.length : Int)) = false := decide_eq_false (by omega)
      have hi : i = ps.length := by have := HI.out; omega
      have HPT := Aside0.mk (show postsTo l ps ps.length = true by rw [← hi]; exact HT.out)
      clear hi HT
      go_wp2_with fail
      go_loopg [108] ax.length (fun kq v108 w' => ∃ i : Nat, v108 = .int .i64 i ∧ Aside0 (i + kq = ax.length) ∧ Aside0 (axlesTo ax i = true) ∧ Aside0 (Below w1.heap.size w1 w'))
      case atStart => exact ⟨0, rfl, ⟨by omega⟩, ⟨rfl⟩, HB⟩
      case round =>
        clear HB
        obtain ⟨i, rfl, HI, HT, HB⟩ := hrel
        by_cases hat : i < ax.length
        · cases gk with
          | zero => exact absurd HI.out (by omega)
          | succ go1 =>
          have hat' : decide ((i : Int) < (ax.length : Int)) = true := decide_eq_true (by omega)
          have q0 : (0 : Int) ≤ (i : Int) := by omega
          obtain ⟨ada, e, -⟩ := HR2.out.2.2 (by omega)
          subst e
          have yv := Kd.foot_int HR2.out (i : Int) q0 (by omega)
          rw [Int.toNat_natCast] at yv
          have HPV := Aside0.mk (prevA_pos HT.out)
          have HPA := Aside0.mk (show axleAt ax i = (decide (prevA ax i ≤ rd ax (i : Int)) && decide (rd ax (i : Int) ≤ 1000000)) from rfl)
          have HS := Aside0.mk (show axlesTo ax (i + 1) = (axlesTo ax i && axleAt ax i) from rfl)
          have HF := Aside0.mk (fun (h : axleAt ax i = false) => (show axlesTo ax ax.length = false from by
            have e1 : axlesTo ax (i + 1) = false := by rw [HS.out, h, Bool.and_false]
            have h2 := axlesTo_false e1 go1
            rwa [show i + 1 + go1 = ax.length by have := HI.out; omega] at h2))
          generalize rd ax (i : Int) = ai at yv HPA
          replace yv := pw_cell_below HB.out yv
          have W1 := Aside0.mk (show wrap64 ((i : Int) + 1) = ((i + 1 : Nat) : Int) from (wrap_id (by omega) (by have := P2.out; omega)).trans (by omega))
          by_cases hi0 : i = 0
          · have hgt : ¬ 0 < i := by omega
            have hgt' : decide ((i : Int) > 0) = false := decide_eq_false (by omega)
            have HI0 := Aside0.mk hi0
            clear hi0
            cases hpe : axleAt ax i
            · have HPE := Aside0.mk hpe
              clear hpe
              have hway := axle_no HPV.out (HPA.out.symm.trans HPE.out)
              rcases hway with hfb | ⟨hfb, h1⟩
              rotate_left
              · exact absurd (far_yes hfb).1 (by rw [HI0.out] at h1; have h1 : ai < 0 := of_decide_eq_true h1; omega)
              all_goals
                go_wp2_with (go_at_call 119; (with_reducible refine (far_at hfb _).mono ?_); rintro e wz ⟨rfl, hw_⟩; obtain rfl := hw_.symm)
                go_ret
                exact ⟨_, rfl, by rw [RES.out, if_neg (by simp [HF.out HPE.out])]; exact Kd.R_nil _ _ _ _ _, below_step BL.out HB.out⟩
            · have HPE := Aside0.mk hpe
              clear hpe
              obtain ⟨hfb, h1⟩ := axle_yes HPV.out (HPA.out.symm.trans HPE.out)
              go_wp2_with (go_at_call 119; (with_reducible refine (far_at hfb _).mono ?_); rintro e wz ⟨rfl, hw_⟩; obtain rfl := hw_.symm)
              go_roundg go1
              case measure => omega
              case rel => exact ⟨i + 1, congrArg (Value.int .i64) (by first | exact W1.out | omega), ⟨by have := HI.out; omega⟩, ⟨by rw [HS.out, HT.out, HPE.out]; rfl⟩, HB⟩
          · obtain ⟨j, hj⟩ : ∃ j, i = j + 1 := ⟨i - 1, by omega⟩
            have hgt : 0 < i := by omega
            have hgt' : decide ((i : Int) > 0) = true := decide_eq_true (by omega)
            have hw : wrap64 ((i : Int) - 1) = (j : Int) := (wrap_id (by omega) (by have := P2.out; omega)).trans (by omega)
            have hw' : IntKind.i64.wrap ((i : Int) - 1) = (j : Int) := (i64_w _).trans hw
            have hjl : j < ax.length := by omega
            have j0 : (0 : Int) ≤ (j : Int) := by omega
            have j1 : decide ((j : Int) < (ax.length : Int)) = true := decide_eq_true (by omega)
            have y0 := Kd.foot_int HR2.out (j : Int) j0 (by omega)
            rw [Int.toNat_natCast] at y0
            have hpv : prevA ax i = rd ax (j : Int) := by rw [hj]; rfl
            rw [hpv] at HPV HPA
            generalize rd ax (j : Int) = pv at y0 HPV HPA
            replace y0 := pw_cell_below HB.out y0
            clear hpv hj hi0
            cases hpe : axleAt ax i
            · have HPE := Aside0.mk hpe
              clear hpe
              have hway := axle_no HPV.out (HPA.out.symm.trans HPE.out)
              rcases hway with hfb | ⟨hfb, h1⟩
              all_goals
                go_wp2_with (go_at_call 119; (with_reducible refine (far_at hfb _).mono ?_); rintro e wz ⟨rfl, hw_⟩; obtain rfl := hw_.symm)
                go_ret
                exact ⟨_, rfl, by rw [RES.out, if_neg (by simp [HF.out HPE.out])]; exact Kd.R_nil _ _ _ _ _, below_step BL.out HB.out⟩
            · have HPE := Aside0.mk hpe
              clear hpe
              obtain ⟨hfb, h1⟩ := axle_yes HPV.out (HPA.out.symm.trans HPE.out)
              go_wp2_with (go_at_call 119; (with_reducible refine (far_at hfb _).mono ?_); rintro e wz ⟨rfl, hw_⟩; obtain rfl := hw_.symm)
              go_roundg go1
              case measure => omega
              case rel => exact ⟨i + 1, congrArg (Value.int .i64) (by first | exact W1.out | omega), ⟨by have := HI.out; omega⟩, ⟨by rw [HS.out, HT.out, HPE.out]; rfl⟩, HB⟩
        · have hat' : decide ((i : Int) < (ax.length : Int)) = false := decide_eq_false (by omega)
          have hi : i = ax.length := by have := HI.out; omega
          have HAT := Aside0.mk (show axlesTo ax ax.length = true by rw [← hi]; exact HT.out)
          clear hi HT
          have RES := Aside0.mk (show res = trainEvs ps ax fr tt by rw [RES.out, HPT.out, HAT.out]; rfl)
          go_wp2_with fail
          go_loopg [16, 133] ax.length (fun kq v16 v133 w' => ∃ i : Nat, v133 = .int .i64 i ∧ Aside0 (i + kq = ax.length) ∧ Aside0 (Kd.R k154 146 w' w1.heap.size (fun _ => True) v16 (metTo ps ax fr tt i)) ∧ Aside0 (Below w1.heap.size w1 w'))
          case atStart => exact ⟨0, rfl, ⟨by omega⟩, ⟨Kd.R_nil _ _ _ _ _⟩, HB⟩
          case round =>
            clear HB
            obtain ⟨i, rfl, HI, HO, HB⟩ := hrel
            by_cases hit : i < ax.length
            · cases gk with
              | zero => exact absurd HI.out (by omega)
              | succ go1 =>
              have hit' : decide ((i : Int) < (ax.length : Int)) = true := decide_eq_true (by omega)
              have q0 : (0 : Int) ≤ (i : Int) := by omega
              have q1 : (i : Int) < (ax.length : Int) := by omega
              have I200 := Aside0.mk (show i < 200 by have := P2.out; omega)
              obtain ⟨ada, e, -⟩ := HR2.out.2.2 (by omega)
              subst e
              have yv := Kd.foot_int HR2.out (i : Int) q0 q1
              rw [Int.toNat_natCast] at yv
              have AI := Aside0.mk (axle_in HAT.out i hit)
              have GS := Aside0.mk (show metTo ps ax fr tt (i + 1) = metTo ps ax fr tt i ++ rowTo ps (rd ax (i : Int)) (i : Int) fr tt ps.length from rfl)
              have LT := Aside0.mk (show (metTo ps ax fr tt i).length ≤ 24000 from Nat.le_trans (metTo_len ps ax fr tt i) (Nat.le_trans (Nat.mul_le_mul (Nat.le_of_lt I200.out) P1.out) (by omega)))
              generalize rd ax (i : Int) = ai at yv AI GS
              replace yv := pw_cell_below HB.out yv
              go_wp2_with fail
              clear yv
              go_loopg [16, 140] ps.length (fun kq v16 v140 w' => ∃ k : Nat, v140 = .int .i64 k ∧ Aside0 (k + kq = ps.length) ∧ Aside0 (Kd.R k154 146 w' w1.heap.size (fun _ => True) v16 (metTo ps ax fr tt i ++ rowTo ps ai (i : Int) fr tt k)) ∧ Aside0 (Below w1.heap.size w1 w'))
              case atStart => exact ⟨0, rfl, ⟨by omega⟩, ⟨by rw [rowTo, List.append_nil]; exact HO.out⟩, HB⟩
              case round =>
                clear HO HB
                obtain ⟨k, rfl, HK, HO, HB⟩ := hrel
                by_cases hkt : k < ps.length
                · cases gk with
                  | zero => exact absurd HK.out (by omega)
                  | succ go2 =>
                  have hkt' : decide ((k : Int) < (ps.length : Int)) = true := decide_eq_true (by omega)
                  have r0 : (0 : Int) ≤ (k : Int) := by omega
                  have r1 : (k : Int) < (ps.length : Int) := by omega
                  obtain ⟨adp, e, x0, x1, x2⟩ := at_T143 HR1.out (k : Int) r0 r1
                  cases e
                  rw [Int.toNat_natCast] at x0 x1 x2
                  have pin := post_in HPT.out k hkt
                  have RS := Aside0.mk (show rowTo ps ai (i : Int) fr tt (k + 1) = rowTo ps ai (i : Int) fr tt k ++ metAt ps ai (i : Int) fr tt k from rfl)
                  have MA := Aside0.mk (show metAt ps ai (i : Int) fr tt k = if fr < (rd_T143 ps (k : Int)).f0 + ai ∧ (rd_T143 ps (k : Int)).f0 + ai ≤ tt then [⟨(rd_T143 ps (k : Int)).f0 + ai, (i : Int), (k : Int)⟩] else [] from rfl)
                  have HL := Aside0.mk (show (metTo ps ax fr tt i ++ rowTo ps ai (i : Int) fr tt k).length ≤ 30000 by rw [List.length_append]; have := rowTo_len ps ai (i : Int) fr tt k; have := LT.out; have := P1.out; omega)
                  generalize rd_T143 ps (k : Int) = x at x0 x1 x2 pin MA
                  replace x0 := pw_cell_below HB.out x0
                  replace x1 := pw_cell_below HB.out x1
                  replace x2 := pw_cell_below HB.out x2
                  obtain ⟨s, hs⟩ : ∃ s, s = x.f0 + ai := ⟨_, rfl⟩
                  have hs1 : wrap64 (ai + x.f0) = s := (wrap_id (by have := AI.out; omega) (by have := AI.out; omega)).trans (by omega)
                  rw [← hs] at MA
                  have hs2 : IntKind.i64.wrap (ai + x.f0) = s := (i64_w _).trans hs1
                  clear hs pin
                  go_upto_region 23 with ((with_reducible refine gate_dst (N := 20) rfl ?_); refine box_event ?hg (N := 20) ?hd (cs := #[.int .i64 0, .int .i64 0, .int .i64 0]) (t := 143) ?hr ?_; (case hd => rfl); (case hg => rfl); (case hr => first | (go_simp; done) | (go_simp; rfl)); intro gx ex wx kx bx; have EX := Aside0.mk ex; have KX := Aside0.mk kx; have BX := Aside0.mk bx; clear ex kx bx; have kx0 : wx.cell? ⟨gx, 0, none⟩ = some (.int .i64 0) := (blk_cell KX.out 0).trans rfl; have zkx0 := blk_frozen KX.out 0; have kx1 : wx.cell? ⟨gx, 1, none⟩ = some (.int .i64 0) := (blk_cell KX.out 1).trans rfl; have zkx1 := blk_frozen KX.out 1; have kx2 : wx.cell? ⟨gx, 2, none⟩ = some (.int .i64 0) := (blk_cell KX.out 2).trans rfl; have zkx2 := blk_frozen KX.out 2)
                  have FX := Aside0.mk (fill3t (y0 := .int .i64 x.f0) (y1 := .int .i64 x.f1) (y2 := .int .i64 x.f2) KX.out BX.out (Nat.le_of_eq EX.out.symm))
                  clear kx0 zkx0 kx1 zkx1 kx2 zkx2 KX BX EX x0 x1 x2
                  generalize (((wx.setCell ⟨gx, 0, none⟩ (.int .i64 x.f0)).setCell ⟨gx, 1, none⟩ (.int .i64 x.f1)).setCell ⟨gx, 2, none⟩ (.int .i64 x.f2)) = w6 at FX ⊢
                  have kx0 : w6.cell? ⟨gx, 0, none⟩ = some (.int .i64 x.f0) := (blk_cell FX.out.2 0).trans rfl
                  have HO := Aside0.mk (Kd.R_below HO.out FX.out.1)
                  have HB := Aside0.mk (below_step HB.out FX.out.1)
                  clear FX
                  have W2 := Aside0.mk (show wrap64 ((k : Int) + 1) = ((k + 1 : Nat) : Int) from (wrap_id (by omega) (by have := P1.out; omega)).trans (by omega))
                  by_cases hf : fr < s
                  · have hf' : decide (fr < s) = true := decide_eq_true hf
                    have hf2 : decide (s > fr) = true := decide_eq_true hf
                    by_cases ht : s ≤ tt
                    · have ht' : decide (s ≤ tt) = true := decide_eq_true ht
                      have H1 := Aside0.mk (MA.out.trans (if_pos ⟨hf, ht⟩))
                      go_wp2_with (at_builtin; refine Kd.R_append k154 (w0 := w1) w1.heap.size rfl (.tmp 157) (.tmp 162) 144 146 (.agg #[.int .i64 0, .int .i64 0, .int .i64 0]) 24 rfl Try.underlying144 info146 rfl (by decide) (by decide) u16 (metTo ps ax fr tt i ++ rowTo ps ai (i : Int) fr tt k) ⟨s, (i : Int), (k : Int)⟩ [.int .i64 s, .int .i64 (i : Int), .int .i64 (k : Int)] (fun _ => True) (fun _ => False) rfl rfl (k154_mkM _ _ _ ⟨s, (i : Int), (k : Int)⟩) (fun k hk => hk.elim) (fun _ _ => trivial) HO.out HB.out HB.out.size (by have := HL.out; omega) ?_; intro vn wn hsn hbn hgn _; have HN := Aside0.mk hsn; have HBN := Aside0.mk hbn; clear hsn hbn hgn)
                      go_roundg go2
                      case measure => omega
                      case rel => exact ⟨k + 1, congrArg (Value.int .i64) (by first | exact W2.out | omega), ⟨by have := HK.out; omega⟩, ⟨by rw [RS.out, H1.out, ← List.append_assoc]; exact HN.out⟩, HBN⟩
                    · have ht' : decide (s ≤ tt) = false := decide_eq_false ht
                      have H1 := Aside0.mk (MA.out.trans (if_neg (fun q => ht q.2)))
                      go_wp2_with fail
                      go_roundg go2
                      case measure => omega
                      case rel => exact ⟨k + 1, congrArg (Value.int .i64) (by first | exact W2.out | omega), ⟨by have := HK.out; omega⟩, ⟨by rw [RS.out, H1.out, List.append_nil]; exact HO.out⟩, HB⟩
                  · have hf' : decide (fr < s) = false := decide_eq_false hf
                    have hf2 : decide (s > fr) = false := decide_eq_false hf
                    have H1 := Aside0.mk (MA.out.trans (if_neg (fun q => hf q.1)))
                    go_wp2_with fail
                    go_roundg go2
                    case measure => omega
                    case rel => exact ⟨k + 1, congrArg (Value.int .i64) (by first | exact W2.out | omega), ⟨by have := HK.out; omega⟩, ⟨by rw [RS.out, H1.out, List.append_nil]; exact HO.out⟩, HB⟩
                · have hkt' : decide ((k : Int) < (ps.length : Int)) = false := decide_eq_false (by omega)
                  have HKE := Aside0.mk (show k = ps.length by have := HK.out; omega)
                  have W1 := Aside0.mk (show wrap64 ((i : Int) + 1) = ((i + 1 : Nat) : Int) from (wrap_id (by omega) (by have := I200.out; omega)).trans (by omega))
                  go_wp2_with fail
                  go_roundg go1
                  case measure => omega
                  case rel => exact ⟨i + 1, congrArg (Value.int .i64) (by first | exact W1.out | omega), ⟨by have := HI.out; omega⟩, ⟨by rw [GS.out, ← HKE.out]; exact HO.out⟩, HB⟩
            · have hit' : decide ((i : Int) < (ax.length : Int)) = false := decide_eq_false (by omega)
              have hi : i = ax.length := by have := HI.out; omega
              rw [hi] at HO
              clear hi
              have HO : Aside0 (Kd.R k154 146 wr w1.heap.size (fun _ => True) u16 (mets ps ax fr tt)) := HO
              have HML := Aside0.mk (show (mets ps ax fr tt).length ≤ 24000 from Nat.le_trans (metTo_len ps ax fr tt ax.length) (Nat.le_trans (Nat.mul_le_mul P2.out P1.out) (by omega)))
              have HND := Aside0.mk (mets_nodup ps ax fr tt)
              have HXM := Aside0.mk (fun x (h : x ∈ mets ps ax fr tt) => mem_mets.1 h)
              have HBD := Aside0.mk (show ∀ x ∈ mets ps ax fr tt, BdM x from fun x hx => by
                obtain ⟨ia, kp, hia, hkp, e, -⟩ := mem_mets.1 hx
                have h1 := post_in HPT.out kp hkp
                have h2 := axle_in HAT.out ia hia
                have h3 := P1.out
                have h4 := P2.out
                rw [e]
                unfold BdM
                dsimp only
                omega)
              have RES := Aside0.mk (show res = (sortM (mets ps ax fr tt)).map (evOf ps) from RES.out)
              generalize mets ps ax fr tt = xs at HO HML HND HXM HBD RES
              obtain ⟨Am, cm, rfl⟩ := Kd.R_slice HO.out
              go_upto_region 29 with (go_at_call 120; refine (sort_any HO.out HND.out HBD.out (by have := HML.out; omega)).mono ?_; rintro e w10 ⟨rfl, ho, hg⟩; have HB := Aside0.mk (pw_below_grown HB.out _ HB.out.size hg (fun m hm => Kd.R_base HO.out _ hm)); have HO := Aside0.mk ho; clear ho hg)
              obtain ⟨zs, hzs⟩ : ∃ zs, zs = sortM xs := ⟨_, rfl⟩
              have HZL := Aside0.mk (show zs.length = xs.length by rw [hzs, sortM_len])
              have HXM := Aside0.mk (fun x (h : x ∈ zs) => HXM.out x (mem_sortM.1 (hzs ▸ h)))
              have HZE := Aside0.mk hzs
              have HZ := Aside0.mk (show Kd.C k154 w10 Am xs.length zs by have h := (Kd.R_reads' HO.out).2.2; rw [sortM_len] at h; rw [hzs]; exact h)
              clear hzs
              have HR1 := Aside0.mk (Kd.C_below HR1.out HB.out)
              go_wp2_with fail
              go_loopg [22, 170] xs.length (fun kq v22 v170 w' => ∃ i : Nat, v170 = .int .i64 i ∧ Aside0 (i + kq = xs.length) ∧ Aside0 (Kd.R k56 56 w' w10.heap.size (fun _ => True) v22 ((zs.take i).map (evOf ps))) ∧ Aside0 (Below w10.heap.size w10 w'))
              case atStart => exact ⟨0, rfl, ⟨by omega⟩, ⟨Kd.R_nil _ _ _ _ _⟩, ⟨Below.refl _ _⟩⟩
              case round =>
                obtain ⟨m, rfl, HM, HQ, HE⟩ := hrel
                by_cases hmt : m < xs.length
                · cases gk with
                  | zero => exact absurd HM.out (by omega)
                  | succ go2 =>
                    have hmt' : decide ((m : Int) < (xs.length : Int)) = true := decide_eq_true (by omega)
                    obtain ⟨adz, e, x0, x1, x2⟩ := at_T154 HZ.out (m : Int) (by omega) (by omega)
                    cases e
                    rw [Int.toNat_natCast] at x0 x1 x2
                    have hmz : m < zs.length := by rw [HZL.out]; exact hmt
                    have hrd : rd_T154 zs (m : Int) = zs[m] := by simp [rd_T154, hmz]
                    have hx := HXM.out (rd_T154 zs (m : Int)) (by rw [hrd]; exact List.getElem_mem hmz)
                    have TS := Aside0.mk (show (zs.take (m + 1)).map (evOf ps) = (zs.take m).map (evOf ps) ++ [evOf ps (rd_T154 zs (m : Int))] by rw [List.take_succ_eq_append_getElem hmz, List.map_append, hrd]; rfl)
                    clear hrd hmz
                    generalize rd_T154 zs (m : Int) = x at x0 x1 x2 hx TS
                    obtain ⟨ia, kp, -, hkp, ex, -⟩ := hx
                    have hx2 : x.f2 = (kp : Int) := by rw [ex]
                    have EX2 := Aside0.mk hx2
                    rw [hx2] at x2
                    clear ex hx2
                    replace x0 := pw_cell_below HE.out x0
                    replace x1 := pw_cell_below HE.out x1
                    replace x2 := pw_cell_below HE.out x2
                    have hkp0 : (0 : Int) ≤ (kp : Int) := by omega
                    have hkp' : decide ((kp : Int) < (ps.length : Int)) = true := decide_eq_true (by omega)
                    have TL := Aside0.mk (show ((zs.take m).map (evOf ps)).length ≤ 24000 by rw [List.length_map, List.length_take]; have := HML.out; have := HZL.out; omega)
                    have W3 := Aside0.mk (show wrap64 ((m : Int) + 1) = ((m + 1 : Nat) : Int) from (wrap_id (by omega) (by have := HML.out; omega)).trans (by omega))
                    go_upto_region 33 with ((with_reducible refine gate_dst (N := 24) rfl ?_); refine box_event ?hg (N := 24) ?hd (cs := #[.int .i64 0, .int .i64 0, .int .i64 0]) (t := 146) ?hr ?_; (case hd => rfl); (case hg => rfl); (case hr => first | (go_simp; done) | (go_simp; rfl)); intro gx ex wx kx bx; have EX := Aside0.mk ex; have KX := Aside0.mk kx; have BX := Aside0.mk bx; clear ex kx bx; have kx0 : wx.cell? ⟨gx, 0, none⟩ = some (.int .i64 0) := (blk_cell KX.out 0).trans rfl; have zkx0 := blk_frozen KX.out 0; have kx1 : wx.cell? ⟨gx, 1, none⟩ = some (.int .i64 0) := (blk_cell KX.out 1).trans rfl; have zkx1 := blk_frozen KX.out 1; have kx2 : wx.cell? ⟨gx, 2, none⟩ = some (.int .i64 0) := (blk_cell KX.out 2).trans rfl; have zkx2 := blk_frozen KX.out 2)
                    have FX := Aside0.mk (fill3t (y0 := .int .i64 x.f0) (y1 := .int .i64 x.f1) (y2 := .int .i64 (kp : Int)) KX.out BX.out (Nat.le_of_eq EX.out.symm))
                    have NX := Aside0.mk (show ∀ k, (u22 : Value).ownBlock = some k → k < gx from fun k hk => by rw [EX.out]; exact Kd.R_lt HQ.out k hk)
                    clear kx0 zkx0 kx1 zkx1 kx2 zkx2 KX BX EX x0 x1 x2
                    generalize (((wx.setCell ⟨gx, 0, none⟩ (.int .i64 x.f0)).setCell ⟨gx, 1, none⟩ (.int .i64 x.f1)).setCell ⟨gx, 2, none⟩ (.int .i64 (kp : Int))) = w13 at FX ⊢
                    have HQ := Aside0.mk (Kd.R_below HQ.out (below_drew1 FX.out.1))
                    have HE := Aside0.mk (below_drew1 (below_step HE.out FX.out.1))
                    have KX := Aside0.mk (blk_drew FX.out.2)
                    clear FX
                    obtain ⟨adp, e, p0, p1, p2⟩ := at_T143 HR1.out (kp : Int) (by omega) (by omega)
                    cases e
                    rw [Int.toNat_natCast] at p0 p1 p2
                    have EV := Aside0.mk (show evOf ps x = ⟨1, (rd_T143 ps (kp : Int)).f1, (rd_T143 ps (kp : Int)).f2⟩ by rw [evOf, EX2.out])
                    generalize rd_T143 ps (kp : Int) = pp at p0 p1 p2 EV
                    have P1B := Aside0.mk p1
                    have P2B := Aside0.mk p2
                    replace p1 := pw_cell_below HE.out p1
                    replace p2 := pw_cell_below HE.out p2
                    clear p0
                    have kx2 : w13.drew.cell? ⟨gx, 2, none⟩ = some (.int .i64 (kp : Int)) := (blk_cell KX.out 2).trans rfl
                    refine startK 17 (S := fun w' => w'.cell? ⟨gx, 2, none⟩ = some (.int .i64 (kp : Int)) ∧ w'.cell? ⟨(adp.add (kp * 3)).block, (adp.add (kp * 3)).off + 1, none⟩ = some (.int .i64 pp.f1) ∧ w'.cell? ⟨(adp.add (kp * 3)).block, (adp.add (kp * 3)).off + 2, none⟩ = some (.int .i64 pp.f2)) (ds := []) (by kernel_rfl) rfl ⟨kx2, p1, p2⟩ (fun hHeld => ?_)
                    refine with_tabW ip_tab33 ip_bits33 (fun HT_ HW_ => ?_)
                    repeat (first
                      | (refine take0 (v := ?_) (a' := ?_) (by simp only [Nat.reduceAdd]; rfl) (by rfl) HT_.out HW_.out (by kernel_rfl) (by exact fun _ _ _ h => h) hHeld ?_ ?_ ?_; rotate_left 2; (· rintro w' ⟨s0, s1, s2⟩; go_simp; with_reducible rfl); (· simp only [Act.put, List.setIfInBounds_toArray, List.set_cons_zero, List.set_cons_succ, i64_w, i32_w]; rfl))
                      | (refine takeG (v := ?_) (a' := ?_) (by simp only [Nat.reduceAdd]; rfl) (by rfl) (by rfl) HT_.out HW_.out (by kernel_rfl) (by exact fun _ _ _ h => h) hHeld ?_ ?_ ?_; rotate_left 2; (· first | (rw [if_neg (by decide)]; done) | (rw [if_pos (by decide)]; rintro w' ⟨s0, s1, s2⟩; go_simp; with_reducible rfl)); (· simp only [Act.put, List.setIfInBounds_toArray, List.set_cons_zero, List.set_cons_succ, i64_w, i32_w]; rfl))
                      | (refine oneK (by simp only [Nat.reduceAdd]; rfl) (by rfl) HT_.out (by kernel_rfl) (by decide) (fun K hK => ?_); refine Kd.R_lit_step k56 (w0 := w10) w10.heap.size 56 ?hg (N := 188) ?hd (xs := [(⟨1, pp.f1, pp.f2⟩ : S56)]) (inner := [.int .i64 1, .int .i64 pp.f1, .int .i64 pp.f2]) (ok := fun k_ => some k_ ≠ (u22 : Value).ownBlock) (okp := fun _ => False) ?hr ?hp (fun _ hk => hk.elim) (lit_fresh2 HQ.out) HE.out (below_size HE.out) (by simp) ?_; (case hd => rfl); (case hg => rfl); (case hr => first | (go_simp; done) | (go_simp; rfl)); (case hp => exact (Reps.c3 (show Kd.M k56 _ _ _ (⟨1, pp.f1, pp.f2⟩ : S56) [.int .i64 1, .int .i64 pp.f1, .int .i64 pp.f2] from (k56_mkM _ _ _ (⟨1, pp.f1, pp.f2⟩ : S56))) (Reps.none _ _))); intro v10 w15 ho hb2 hg hn; obtain ⟨A10, c10, rfl⟩ := Kd.R_slice ho; have R10 := Aside0.mk (Kd.R_reads' ho); have hb := lit_below2 hg; have HQ := Aside0.mk (Kd.R_below HQ.out hb); have HE := Aside0.mk hb2; have KX := Aside0.mk (blk_below KX.out hb); refine hK.out _ _ ⟨pw_cell_below hb hHeld.1, pw_cell_below hb hHeld.2.1, pw_cell_below hb hHeld.2.2⟩ (fun hHeld => ?_); clear ho hb hb2 hg hn hK K; refine norm_ (a' := ?_) ?_ ?_; rotate_left; · simp only [Act.put, List.setIfInBounds_toArray, List.set_cons_zero, List.set_cons_succ, i64_w, i32_w]; rfl)
                      | (refine oneK (by simp only [Nat.reduceAdd]; rfl) (by rfl) HT_.out (by kernel_rfl) (by decide) (fun K hK => ?_); refine Kd.R_append_rows_step k56 (w0 := w10) w10.heap.size (by rfl) (.tmp 174) (.tmp 188) 35 56 (.agg #[(.int .i64 0), (.int .i64 0), (.int .i64 0)]) 24 rfl Try.underlying35 infoE56 rfl (by decide) (by omega) u22 ((zs.take m).map (evOf ps)) [(⟨1, pp.f1, pp.f2⟩ : S56)] _ _ _ (fun _ => True) (fun _ => False) rfl rfl HQ.out R10.out.2.2 (fun x cs h => h) (fun _ h => h.elim) (fun _ _ => trivial) HE.out (below_size HE.out) (by have := TL.out; simp only [List.length_cons, List.length_nil]; omega) ?_; intro vn wn ho hb hg hat; have HN := Aside0.mk ho; have HBN := Aside0.mk hb; have KXN := Aside0.mk ((hg.block gx (blk_lt KX.out) (fun e => by have := NX.out gx e.symm; omega)).trans KX.out); refine hK.out _ _ ⟨(blk_cell KXN.out 2).trans rfl, pw_cell_below hb P1B.out, pw_cell_below hb P2B.out⟩ (fun hHeld => ?_); clear ho hb hg hat hK K; refine norm_ (a' := ?_) ?_ ?_; rotate_left; · simp only [Act.put, List.setIfInBounds_toArray, List.set_cons_zero, List.set_cons_succ, i64_w, i32_w]; rfl))
                    refine done_ (done_of HT_.out (by kernel_rfl)) ?_
                    go_wp2_with fail
                    go_roundg go2
                    case measure => omega
                    case rel => exact ⟨m + 1, congrArg (Value.int .i64) (by first | exact W3.out | omega), ⟨by have := HM.out; omega⟩, ⟨by rw [TS.out, EV.out]; exact HN.out⟩, HBN⟩
                · have hmt' : decide ((m : Int) < (xs.length : Int)) = false := decide_eq_false (by omega)
                  have HQ := Aside0.mk (show Kd.R k56 56 wr w10.heap.size (fun _ => True) u22 res by have h := HQ.out; rw [List.take_of_length_le (by rw [HZL.out]; omega), HZE.out, ← RES.out] at h; exact h)
                  go_wp2_with fail
                  go_ret
                  exact ⟨_, rfl, Kd.R_lower HQ.out (Nat.le_trans BL.out.size HB.out.size), below_step (below_step BL.out HB.out) HE.out⟩
end Go.Proofs.Ytpdnabhpkdchjaa.P
namespace Go.Proofs.Ytpdnabhpkdchjaa.P
open Go.RowKit Go.Proofs.YtpdnabhpkdchjaaW.PrintWords Go.Proofs.YtpdnabhpkdchjaaW.PrintLast Go.Proofs.YtpdnabhpkdchjaaW.PrintMore
set_option linter.unusedVariables false
theorem ipassing_is (n : Int) (A : Option Addr) (c : Nat) (l : List S88) (A1 : Option Addr) (c1 : Nat) (ps : List S143) (A2 : Option Addr) (c2 : Nat) (ax : List Int) (fr tt : Int) (w : World) (hr : Kd.C k88 w A l.length l) (hc : l.length ≤ c) (hr1 : Kd.C k143 w A1 ps.length ps) (hc1 : ps.length ≤ c1) (hr2 : Kd.C (Kd.int .i64) w A2 ax.length ax) (hc2 : ax.length ≤ c2) (hp : ps.length ≤ 1048576) (ha : ax.length ≤ 1048576) :
    Calls Try.prog 75 #[.agg #[.int .i64 n, .slice A l.length c], .slice A1 ps.length c1, .slice A2 ax.length c2, .int .i64 fr, .int .i64 tt] w fun e w' => ∃ v0_ : Value, e = .returned v0_ ∧ Kd.R k56 56 w' w.heap.size (fun _ => True) v0_ (passing n l ps ax fr tt) ∧ Below w.heap.size w w' := by
  by_cases t0 : layoutOk n l = 0
  · by_cases t1 : ps.length ≤ 120
    · by_cases t2 : ax.length ≤ 200
      · cases t3 : farB fr
        · have e : passOk n l ps ax fr tt = false := by unfold farB at t3; rw [passOk, t3]; simp
          rw [passing, e, if_neg (by decide)]
          exact ipass_no3 n A c l A1 c1 ps A2 c2 ax fr tt w hr hc hr1 hc1 hr2 hc2 hp ha t0 t1 t2 t3
        · cases t4 : farB tt
          · have e : passOk n l ps ax fr tt = false := by rw [passOk]; unfold farB at t3 t4; rw [Bool.and_eq_true, decide_eq_true_eq, decide_eq_true_eq] at t3; rw [bad_to t3.1 t4, Bool.and_false]
            rw [passing, e, if_neg (by decide)]
            exact ipass_no4 n A c l A1 c1 ps A2 c2 ax fr tt w hr hc hr1 hc1 hr2 hc2 hp ha t0 t1 t2 t3 t4
          · by_cases t5 : fr ≤ tt
            · have h3 := far_yes t3
              have h4 := far_yes t4
              have e : passing n l ps ax fr tt = if (postsTo l ps ps.length && axlesTo ax ax.length) = true then trainEvs ps ax fr tt else [] := by
                rw [passing, passOk, decide_eq_true t0, decide_eq_true t1, decide_eq_true t2, decide_eq_true h3.1, decide_eq_true h3.2, decide_eq_true t5, decide_eq_true h4.2]; simp
              rw [e]
              exact ipass_yes n A c l A1 c1 ps A2 c2 ax fr tt w hr hc hr1 hc1 hr2 hc2 hp ha t0 t1 t2 t3 t4 t5
            · have e : passOk n l ps ax fr tt = false := by rw [passOk, decide_eq_false t5]; simp
              rw [passing, e, if_neg (by decide)]
              exact ipass_no5 n A c l A1 c1 ps A2 c2 ax fr tt w hr hc hr1 hc1 hr2 hc2 hp ha t0 t1 t2 t3 t4 (by omega)
      · have e : passOk n l ps ax fr tt = false := by rw [passOk, decide_eq_false t2]; simp
        rw [passing, e, if_neg (by decide)]
        exact ipass_no2 n A c l A1 c1 ps A2 c2 ax fr tt w hr hc hr1 hc1 hr2 hc2 hp ha t0 t1 (by omega)
    · have e : passOk n l ps ax fr tt = false := by rw [passOk, decide_eq_false t1]; simp
      rw [passing, e, if_neg (by decide)]
      exact ipass_no1 n A c l A1 c1 ps A2 c2 ax fr tt w hr hc hr1 hc1 hr2 hc2 hp ha t0 (by omega)
  · have e : passOk n l ps ax fr tt = false := by rw [passOk, decide_eq_false t0]; simp
    rw [passing, e, if_neg (by decide)]
    exact ipass_no0 n A c l A1 c1 ps A2 c2 ax fr tt w hr hc hr1 hc1 hr2 hc2 hp ha _ rfl (by simp [t0])
end Go.Proofs.Ytpdnabhpkdchjaa.P
namespace Go.Proofs.Ytpdnabhpkdchjaa.P
open Go.RowKit Go.Proofs.YtpdnabhpkdchjaaW.PrintWords Go.Proofs.YtpdnabhpkdchjaaW.PrintLast Go.Proofs.YtpdnabhpkdchjaaW.PrintMore
set_option linter.unusedVariables false
theorem R_off {α : Type} {d : Kd α} {e : Nat} {w : World} {base : Nat} {ok : Nat → Prop} {v : Value} {xs : List α} (hE : d.E = []) (h : d.R e w base ok v xs) {p : Addr} (hne : some p.block ≠ v.ownBlock) (u : Value) : d.R e (w.setCell p u) base (fun _ => True) v xs :=
  Kd.R_mono (Kd.R_far (Kd.R_tight hE h) (fun k hk hp => hne (hp ▸ hk)) u) (fun _ _ => trivial)
theorem R_on {α : Type} {d : Kd α} {e : Nat} {w w' : World} {base : Nat} {ok : Nat → Prop} {v : Value} {xs : List α} (hE : d.E = []) (h : d.R e w base ok v xs) {row : Option Nat} (hg : w.grownBy w' row) (hne : row ≠ v.ownBlock) : d.R e w' base (fun _ => True) v xs :=
  Kd.R_mono (Kd.R_step (Kd.R_tight hE h) (fun k hk hlt => hg.block k hlt (fun c => hne (c ▸ hk)))) (fun _ _ => trivial)
theorem R_up {α : Type} {d : Kd α} {e : Nat} {w w' : World} {base : Nat} {ok : Nat → Prop} {v : Value} {xs : List α} (h : d.R e w base ok v xs) (hb : Below w.heap.size w w') : d.R e w' base (fun _ => True) v xs :=
  Kd.R_mono (Kd.R_step h (fun k hk hlt => hb.block k hlt)) (fun _ _ => trivial)
end Go.Proofs.Ytpdnabhpkdchjaa.P
namespace Go.Proofs.Ytpdnabhpkdchjaa.P
open Go.RowKit Go.Proofs.YtpdnabhpkdchjaaW.PrintWords Go.Proofs.YtpdnabhpkdchjaaW.PrintLast Go.Proofs.YtpdnabhpkdchjaaW.PrintMore
set_option linter.unusedVariables false
set_option linter.unusedSimpArgs false
structure MlSt (wI : World) (b0 : Nat) (w : World) (gr gl : Nat) (n : Int) (v1 v2 : Value) (cs : List S88) (ps : List S143) : Prop where
  hr : w.heap[gr]? = some (.cells #[.int .i64 0, .slice none 0 0] 30 (0, 0))
  hl : w.heap[gl]? = some (.cells #[.int .i64 n, v1] 30 (0, 0))
  H1 : Kd.R k88 88 w b0 (fun _ => True) v1 cs
  H2 : Kd.R k143 143 w b0 (fun _ => True) v2 ps
  hB : Below wI.heap.size wI w
  b1 : wI.heap.size ≤ b0
  b2 : b0 ≤ w.heap.size
  rlt : gr < b0
  llt : gl < b0
  lge : wI.heap.size ≤ gl
  rge : wI.heap.size ≤ gr
  ne : gr ≠ gl
section
variable {wI w w' : World} {b0 gr gl : Nat} {n : Int} {v1 v2 v1' v2' : Value} {cs cs' : List S88} {ps ps' : List S143}
theorem MlSt.up (h : MlSt wI b0 w gr gl n v1 v2 cs ps) (hb : Below w.heap.size w w') : MlSt wI b0 w' gr gl n v1 v2 cs ps :=
  ⟨blk_below h.hr hb, blk_below h.hl hb, R_up h.H1 hb, R_up h.H2 hb, below_step h.hB hb, h.b1, Nat.le_trans h.b2 hb.size, h.rlt, h.llt, h.lge, h.rge, h.ne⟩
theorem MlSt.ne1 (h : MlSt wI b0 w gr gl n v1 v2 cs ps) {g : Nat} (hg : g < b0) : some g ≠ v1.ownBlock := fun e => by have := Kd.R_base h.H1 g e.symm; omega
theorem MlSt.ne2 (h : MlSt wI b0 w gr gl n v1 v2 cs ps) {g : Nat} (hg : g < b0) : some g ≠ v2.ownBlock := fun e => by have := Kd.R_base h.H2 g e.symm; omega
theorem MlSt.apart (h : MlSt wI b0 w gr gl n v1 v2 cs ps) : v1.ownBlock ≠ v2.ownBlock ∨ v1.ownBlock = none := by
  cases hv : v1.ownBlock with
  | none => exact .inr rfl
  | some k =>
    obtain ⟨inner, ho⟩ := Kd.R_own h.H1
    obtain ⟨cells, hc⟩ := own_typed ho k hv
    exact .inl (Kd.R_ne h.H2 hc (by decide))
theorem MlSt.apart2 (h : MlSt wI b0 w gr gl n v1 v2 cs ps) : v2.ownBlock ≠ v1.ownBlock ∨ v2.ownBlock = none := by
  cases hv : v2.ownBlock with
  | none => exact .inr rfl
  | some k =>
    obtain ⟨inner, ho⟩ := Kd.R_own h.H2
    obtain ⟨cells, hc⟩ := own_typed ho k hv
    exact .inl (Kd.R_ne h.H1 hc (by decide))
theorem up_none {W W' : World} (hg : W.grownBy W' none) : Below W.heap.size W W' := (Below.refl _ _).grown hg (Nat.le_refl _) (fun _ e => nomatch e)
theorem MlSt.cs1 (h : MlSt wI b0 w gr gl n v1 v2 cs ps) (hg : w.grownBy w' v1.ownBlock) :
    w'.heap[gr]? = some (.cells #[.int .i64 0, .slice none 0 0] 30 (0, 0)) ∧ w'.heap[gl]? = some (.cells #[.int .i64 n, v1] 30 (0, 0)) ∧ Kd.R k143 143 w' b0 (fun _ => True) v2 ps ∧ Below wI.heap.size wI w' := by
  refine ⟨(hg.block gr (blk_lt h.hr) (h.ne1 h.rlt)).trans h.hr, (hg.block gl (blk_lt h.hl) (h.ne1 h.llt)).trans h.hl, ?_, pw_below_grown h.hB _ h.hB.size hg (fun k hk => Nat.le_trans h.b1 (Kd.R_base h.H1 k hk))⟩
  rcases h.apart with ha | ha
  · exact R_on rfl h.H2 hg ha
  · rw [ha] at hg
    exact R_up h.H2 (up_none hg)
theorem MlSt.cs2 (h : MlSt wI b0 w gr gl n v1 v2 cs ps) (H1 : Kd.R k88 88 w' b0 (fun _ => True) v1' cs') (hg : w.grownBy w' v1.ownBlock) : MlSt wI b0 (w'.setCell ⟨gl, 1, none⟩ v1') gr gl n v1' v2 cs' ps := by
  obtain ⟨a, b, d, e⟩ := h.cs1 hg
  refine ⟨blk_far a (fun e => h.ne e) _, blk_put b 1 v1' rfl, R_off rfl H1 (Kd.R_ne H1 b (by decide)) _, R_off rfl d (Kd.R_ne d b (by decide)) _, below_set e h.lge, h.b1, ?_, h.rlt, h.llt, h.lge, h.rge, h.ne⟩
  have hs : w'.heap.size ≤ (w'.setCell ⟨gl, 1, none⟩ v1').heap.size := by simp [World.setCell]
  exact Nat.le_trans h.b2 (Nat.le_trans hg.size hs)
theorem MlSt.pst (h : MlSt wI b0 w gr gl n v1 v2 cs ps) (H2 : Kd.R k143 143 w' b0 (fun _ => True) v2' ps') (hg : w.grownBy w' v2.ownBlock) : MlSt wI b0 w' gr gl n v1 v2' cs ps' := by
  refine ⟨(hg.block gr (blk_lt h.hr) (h.ne2 h.rlt)).trans h.hr, (hg.block gl (blk_lt h.hl) (h.ne2 h.llt)).trans h.hl, ?_, H2, pw_below_grown h.hB _ h.hB.size hg (fun k hk => Nat.le_trans h.b1 (Kd.R_base h.H2 k hk)), h.b1, Nat.le_trans h.b2 hg.size, h.rlt, h.llt, h.lge, h.rge, h.ne⟩
  rcases h.apart2 with ha | ha
  · exact R_on rfl h.H1 hg ha
  · rw [ha] at hg
    exact R_up h.H1 (up_none hg)
theorem MlSt.at_ (h : MlSt wI b0 w gr gl n v1 v2 cs ps) : w.cell? ⟨gl, 0, none⟩ = some (.int .i64 n) ∧ w.cell? ⟨gl, 1, none⟩ = some v1 ∧ w.frozen? ⟨gl, 0, none⟩ = false ∧ w.frozen? ⟨gl, 1, none⟩ = false ∧
    w.cell? ⟨gr, 0, none⟩ = some (.int .i64 0) ∧ w.cell? ⟨gr, 1, none⟩ = some (.slice none 0 0) ∧ w.frozen? ⟨gr, 0, none⟩ = false ∧ w.frozen? ⟨gr, 1, none⟩ = false := by
  have a0 := blk_cell h.hl 0
  have a1 := blk_cell h.hl 1
  have b0 := blk_cell h.hr 0
  have b1 := blk_cell h.hr 1
  exact ⟨a0, a1, blk_frozen h.hl 0, blk_frozen h.hl 1, b0, b1, blk_frozen h.hr 0, blk_frozen h.hr 1⟩
end
theorem fill2m {w w' : World} {g t : Nat} {x0 x1 y0 y1 : Value} (hx : w'.heap[g]? = some (.cells #[x0, x1] t (0, 0))) (hb : Below w.heap.size w w') (hg : w.heap.size ≤ g) :
    Below w.heap.size w ((w'.setCell ⟨g, 0, none⟩ y0).setCell ⟨g, 1, none⟩ y1) ∧ ((w'.setCell ⟨g, 0, none⟩ y0).setCell ⟨g, 1, none⟩ y1).heap[g]? = some (.cells #[y0, y1] t (0, 0)) :=
  ⟨below_set (j := 1) (v := y1) (below_set (j := 0) (v := y0) hb hg) hg, blk_put (blk_put hx 0 y0 rfl) 1 y1 rfl⟩
set_option maxHeartbeats 8000000 in
set_option maxRecDepth 100000 in
theorem made_is (n : Nat) (ap : Int) (w : World) (hn : n ≤ 60) (h0 : 0 ≤ ap) (h1 : ap ≤ 1000) :
    Calls Try.prog 74 #[.int .i64 (n : Int), .int .i64 ap] w fun e w' => ∃ v1_ v2_ : Value, e = .returned (.tuple #[.agg #[.int .i64 (n : Int), v1_], v2_]) ∧ Kd.R k88 88 w' w.heap.size (fun _ => True) v1_ (lineC n) ∧ Kd.R k143 143 w' w.heap.size (fun _ => True) v2_ (lineP n ap) ∧ Below w.heap.size w w' := by
  go_enter Try.func74, Try.ntmps74
  go_upto_region 1 with ((with_reducible refine gate_dst (N := 4) rfl ?_); refine box_event ?hg (N := 4) ?hd (cs := #[.int .i64 0, .slice none 0 0]) (t := 30) ?hr ?_; (case hd => rfl); (case hg => rfl); (case hr => first | (go_simp; done) | (go_simp; rfl)); intro gr er wr kr br; have ER := Aside0.mk er; have KR := Aside0.mk kr; have BR := Aside0.mk br; clear er kr br; have kr0 : wr.cell? ⟨gr, 0, none⟩ = some (.int .i64 0) := (blk_cell KR.out 0).trans rfl; have zkr0 := blk_frozen KR.out 0; have kr1 : wr.cell? ⟨gr, 1, none⟩ = some (.slice none 0 0) := (blk_cell KR.out 1).trans rfl; have zkr1 := blk_frozen KR.out 1)
  go_upto_region 2 with ((with_reducible refine gate_dst (N := 6) rfl ?_); refine box_event ?hg (N := 6) ?hd (cs := #[.int .i64 0, .slice none 0 0]) (t := 30) ?hr ?_; (case hd => rfl); (case hg => rfl); (case hr => first | (go_simp; done) | (go_simp; rfl)); intro gl el wl kl bl; have EL := Aside0.mk el; have KL := Aside0.mk kl; have BL := Aside0.mk bl; clear el kl bl; have kl0 : wl.cell? ⟨gl, 0, none⟩ = some (.int .i64 0) := (blk_cell KL.out 0).trans rfl; have zkl0 := blk_frozen KL.out 0; have kl1 : wl.cell? ⟨gl, 1, none⟩ = some (.slice none 0 0) := (blk_cell KL.out 1).trans rfl; have zkl1 := blk_frozen KL.out 1)
  have FX := Aside0.mk (fill2m (y0 := .int .i64 (n : Int)) (y1 := .slice none 0 0) KL.out BL.out (Nat.le_of_eq EL.out.symm))
  have HRR := Aside0.mk (blk_below KR.out FX.out.1)
  have HE := Aside0.mk (show gr < gl ∧ w.heap.size ≤ gr by have h1 := blk_lt KR.out; have h2 := EL.out; have h3 := ER.out; omega)
  have HBI := Aside0.mk (below_step BR.out FX.out.1)
  clear kl0 zkl0 kl1 zkl1 kr0 zkr0 kr1 zkr1 KL BL EL KR BR ER
  generalize ((wl.setCell ⟨gl, 0, none⟩ (.int .i64 (n : Int))).setCell ⟨gl, 1, none⟩ (.slice none 0 0)) = w2 at FX HRR HBI ⊢
  have ST := Aside0.mk (MlSt.mk (wI := w) (b0 := w2.heap.size) HRR.out FX.out.2 (Kd.R_nil k88 88 w2 _ _) (Kd.R_nil k143 143 w2 _ _) HBI.out HBI.out.size (Nat.le_refl _) (blk_lt HRR.out) (blk_lt FX.out.2) (by have := HE.out; omega) (by have := HE.out; omega) (by have := HE.out; omega))
  clear FX HRR HE HBI
  go_wp2_with fail
  go_loopg [7, 8] (n + 1) (fun kq v7 v8 w' => ∃ i : Nat, v8 = .int .i64 i ∧ Aside0 (i + kq = n + 1) ∧ ∃ v1, Aside0 (MlSt w w2.heap.size w' gr gl (n : Int) v1 v7 ((List.range i).map (ctrL n)) ((List.range i).map (postL ap))))
  case atStart => exact ⟨0, rfl, ⟨by omega⟩, _, ST⟩
  case round =>
    clear ST
    obtain ⟨i, rfl, HI, v1, ST⟩ := hrel
    by_cases hit : i ≤ n
    · cases gk with
      | zero => exact absurd HI.out (by omega)
      | succ go1 =>
      have hit' : decide ((i : Int) ≤ (n : Int)) = true := decide_eq_true (by omega)
      have hs1 : wrap64 ((i : Int) - 1) = (i : Int) - 1 := wrap_id (by omega) (by omega)
      obtain ⟨im, him⟩ : ∃ im, im = (i : Int) - 1 := ⟨_, rfl⟩
      have hw1 : wrap64 ((i : Int) - 1) = im := hs1.trans him.symm
      have hw1' : IntKind.i64.wrap ((i : Int) - 1) = im := (i64_w _).trans hw1
      have hm1 : 0 ≤ ap * ((i : Int) + 1) := Int.mul_nonneg h0 (by omega)
      have hm2 : ap * ((i : Int) + 1) ≤ 1000 * ((i : Int) + 1) := Int.mul_le_mul_of_nonneg_right h1 (by omega)
      have W1 := Aside0.mk (show wrap64 ((i : Int) + 1) = ((i + 1 : Nat) : Int) from (wrap_id (by omega) (by omega)).trans (by omega))
      obtain ⟨i1, hi1⟩ : ∃ i1, i1 = ((i + 1 : Nat) : Int) := ⟨_, rfl⟩
      have hw2 : wrap64 ((i : Int) + 1) = i1 := W1.out.trans hi1.symm
      have hw2' : IntKind.i64.wrap ((i : Int) + 1) = i1 := (i64_w _).trans hw2
      obtain ⟨pa, hpa⟩ : ∃ pa, pa = ap * ((i : Int) + 1) := ⟨_, rfl⟩
      have hw3 : wrap64 (ap * i1) = pa := by rw [hi1, hpa, show ((i + 1 : Nat) : Int) = (i : Int) + 1 by omega]; exact wrap_id (by omega) (by omega)
      have hw3' : IntKind.i64.wrap (ap * i1) = pa := (i64_w _).trans hw3
      have HIM := Aside0.mk him
      have HI1 := Aside0.mk hi1
      have HPA := Aside0.mk hpa
      have HIT := Aside0.mk hit
      have CSX := Aside0.mk (show (List.range (i + 1)).map (ctrL n) = (List.range i).map (ctrL n) ++ [ctrL n i] by rw [List.range_succ, List.map_append]; rfl)
      have PSX := Aside0.mk (show (List.range (i + 1)).map (postL ap) = (List.range i).map (postL ap) ++ [postL ap i] by rw [List.range_succ, List.map_append]; rfl)
      have CSL := Aside0.mk (show ((List.range i).map (ctrL n)).length ≤ 100 by simp; omega)
      have PSL := Aside0.mk (show ((List.range i).map (postL ap)).length ≤ 100 by simp; omega)
      generalize (List.range i).map (ctrL n) = cs at ST CSX CSL
      generalize (List.range i).map (postL ap) = ps at ST PSX PSL
      clear him hi1 hpa hm1 hm2 hs1
      go_upto_region 7 with ((with_reducible refine gate_dst (N := 9) rfl ?_); refine box_event ?hg (N := 9) ?hd (cs := #[.int .i64 0, .int .i64 0]) (t := 88) ?hr ?_; (case hd => rfl); (case hg => rfl); (case hr => first | (go_simp; done) | (go_simp; rfl)); intro gx ex wx kx bx; have EX := Aside0.mk ex; have KX := Aside0.mk kx; have BX := Aside0.mk bx; clear ex kx bx; have kx0 : wx.cell? ⟨gx, 0, none⟩ = some (.int .i64 0) := (blk_cell KX.out 0).trans rfl; have zkx0 := blk_frozen KX.out 0; have kx1 : wx.cell? ⟨gx, 1, none⟩ = some (.int .i64 0) := (blk_cell KX.out 1).trans rfl; have zkx1 := blk_frozen KX.out 1)
      have FX := Aside0.mk (fill2m (y0 := .int .i64 im) (y1 := .int .i64 (i : Int)) KX.out BX.out (Nat.le_of_eq EX.out.symm))
      have HGE := Aside0.mk (show w2.heap.size ≤ gx ∧ gx ≠ gl by have h1 := ST.out.b2; have h2 := EX.out; have h3 := blk_lt ST.out.hl; omega)
      have FL := Aside0.mk (fun v => below_set (j := 1) (v := v) FX.out.1 (Nat.le_of_eq EX.out.symm))
      clear kx0 zkx0 kx1 zkx1 KX BX EX
      generalize ((wx.setCell ⟨gx, 0, none⟩ (.int .i64 im)).setCell ⟨gx, 1, none⟩ (.int .i64 (i : Int))) = w3 at FX FL ⊢
      have KX := Aside0.mk FX.out.2
      by_cases hin : i = n
      · have hq : ((i : Int) == (n : Int)) = true := by rw [hin]; exact beq_self_eq_true _
        have HIN := Aside0.mk hin
        clear hin
        have ST := Aside0.mk (ST.out.up (FL.out (.int .i64 (-1))))
        have kx1 : w3.cell? ⟨gx, 1, none⟩ = some (.int .i64 (i : Int)) := (blk_cell KX.out 1).trans rfl
        have zx1 := blk_frozen KX.out 1
        go_upto_region 9 with fail
        have KX := Aside0.mk (blk_put KX.out 1 (.int .i64 (-1)) rfl)
        clear kx1 zx1 FX FL
        generalize w3.setCell ⟨gx, 1, none⟩ (.int .i64 (-1)) = w4 at ST KX ⊢
        have PE := Aside0.mk (show ctrL n i = ⟨im, (-1)⟩ by rw [HIM.out]; unfold ctrL; rw [if_pos HIN.out])
        obtain ⟨a0, a1, af0, af1, -⟩ := ST.out.at_
        have kx0 : w4.cell? ⟨gx, 0, none⟩ = some (.int .i64 im) := (blk_cell KX.out 0).trans rfl
        have kx1 : w4.cell? ⟨gx, 1, none⟩ = some (.int .i64 (-1)) := (blk_cell KX.out 1).trans rfl
        go_upto_region 10 with (at_builtin; refine Kd.R_append k88 (w0 := w4) w2.heap.size rfl (.tmp 26) (.tmp 28) 28 88 (.agg #[.int .i64 0, .int .i64 0]) 16 rfl Try.underlying28 info88 rfl (by decide) (by decide) v1 cs ⟨im, (-1)⟩ [.int .i64 im, .int .i64 (-1)] (fun _ => True) (fun _ => False) rfl rfl (k88_mkM _ _ _ ⟨im, (-1)⟩) (fun k hk => hk.elim) (fun _ _ => trivial) ST.out.H1 (Below.refl _ _) ST.out.b2 (by have := CSL.out; omega) ?_; intro vn wn hsn hbn hgn _; obtain ⟨An, cn, rfl⟩ := Kd.R_slice hsn; rw [List.length_append, List.length_singleton] at hsn ⊢; have HP1 := Aside0.mk (ST.out.cs1 hgn); have SN := Aside0.mk (ST.out.cs2 hsn hgn); have klN : wn.cell? ⟨gl, 1, none⟩ = some v1 := (blk_cell HP1.out.2.1 1).trans rfl; have zlN := blk_frozen HP1.out.2.1 1; clear hsn hbn hgn a0 a1 af0 af1 kx0 kx1)
        clear klN zlN HP1
        generalize wn.setCell ⟨gl, 1, none⟩ (.slice An (cs.length + 1) cn) = w5 at SN ⊢
        go_wp2_with (at_builtin; refine Kd.R_append k143 (w0 := w5) w2.heap.size rfl (.tmp 31) (.tmp 38) 96 143 (.agg #[.int .i64 0, .int .i64 0, .int .i64 0]) 24 rfl Try.underlying96 info143 rfl (by decide) (by decide) u7 ps ⟨pa, (i : Int), 1⟩ [.int .i64 pa, .int .i64 (i : Int), .int .i64 1] (fun _ => True) (fun _ => False) rfl rfl (k143_mkM _ _ _ ⟨pa, (i : Int), 1⟩) (fun k hk => hk.elim) (fun _ _ => trivial) SN.out.H2 (Below.refl _ _) SN.out.b2 (by have := PSL.out; omega) ?_; intro vp wp hsn hbn hgn _; have SN := Aside0.mk (SN.out.pst hsn hgn); clear hsn hbn hgn)
        go_roundg go1
        case measure => omega
        case rel => exact ⟨i + 1, congrArg (Value.int .i64) (by first | exact HI1.out | exact W1.out | omega), ⟨by have := HI.out; omega⟩, _, ⟨by rw [CSX.out, PSX.out, PE.out, show postL ap i = ⟨pa, (i : Int), 1⟩ by rw [HPA.out]; rfl]; exact SN.out⟩⟩
      · have hq : ((i : Int) == (n : Int)) = false := by simp; omega
        have HIN := Aside0.mk hin
        have ST := Aside0.mk (ST.out.up FX.out.1)
        clear FX FL
        go_upto_region 9 with fail
        have PE := Aside0.mk (show ctrL n i = ⟨im, (i : Int)⟩ by rw [HIM.out]; unfold ctrL; rw [if_neg HIN.out])
        obtain ⟨a0, a1, af0, af1, -⟩ := ST.out.at_
        have kx0 : w3.cell? ⟨gx, 0, none⟩ = some (.int .i64 im) := (blk_cell KX.out 0).trans rfl
        have kx1 : w3.cell? ⟨gx, 1, none⟩ = some (.int .i64 (i : Int)) := (blk_cell KX.out 1).trans rfl
        go_upto_region 10 with (at_builtin; refine Kd.R_append k88 (w0 := w3) w2.heap.size rfl (.tmp 26) (.tmp 28) 28 88 (.agg #[.int .i64 0, .int .i64 0]) 16 rfl Try.underlying28 info88 rfl (by decide) (by decide) v1 cs ⟨im, (i : Int)⟩ [.int .i64 im, .int .i64 (i : Int)] (fun _ => True) (fun _ => False) rfl rfl (k88_mkM _ _ _ ⟨im, (i : Int)⟩) (fun k hk => hk.elim) (fun _ _ => trivial) ST.out.H1 (Below.refl _ _) ST.out.b2 (by have := CSL.out; omega) ?_; intro vn wn hsn hbn hgn _; obtain ⟨An, cn, rfl⟩ := Kd.R_slice hsn; rw [List.length_append, List.length_singleton] at hsn ⊢; have HP1 := Aside0.mk (ST.out.cs1 hgn); have SN := Aside0.mk (ST.out.cs2 hsn hgn); have klN : wn.cell? ⟨gl, 1, none⟩ = some v1 := (blk_cell HP1.out.2.1 1).trans rfl; have zlN := blk_frozen HP1.out.2.1 1; clear hsn hbn hgn a0 a1 af0 af1 kx0 kx1)
        clear klN zlN HP1
        generalize wn.setCell ⟨gl, 1, none⟩ (.slice An (cs.length + 1) cn) = w5 at SN ⊢
        go_wp2_with (at_builtin; refine Kd.R_append k143 (w0 := w5) w2.heap.size rfl (.tmp 31) (.tmp 38) 96 143 (.agg #[.int .i64 0, .int .i64 0, .int .i64 0]) 24 rfl Try.underlying96 info143 rfl (by decide) (by decide) u7 ps ⟨pa, (i : Int), 1⟩ [.int .i64 pa, .int .i64 (i : Int), .int .i64 1] (fun _ => True) (fun _ => False) rfl rfl (k143_mkM _ _ _ ⟨pa, (i : Int), 1⟩) (fun k hk => hk.elim) (fun _ _ => trivial) SN.out.H2 (Below.refl _ _) SN.out.b2 (by have := PSL.out; omega) ?_; intro vp wp hsn hbn hgn _; have SN := Aside0.mk (SN.out.pst hsn hgn); clear hsn hbn hgn)
        go_roundg go1
        case measure => omega
        case rel => exact ⟨i + 1, congrArg (Value.int .i64) (by first | exact HI1.out | exact W1.out | omega), ⟨by have := HI.out; omega⟩, _, ⟨by rw [CSX.out, PSX.out, PE.out, show postL ap i = ⟨pa, (i : Int), 1⟩ by rw [HPA.out]; rfl]; exact SN.out⟩⟩
    · have hit' : decide ((i : Int) ≤ (n : Int)) = false := decide_eq_false (by omega)
      have hi : i = n + 1 := by have := HI.out; omega
      have ST := Aside0.mk (show MlSt w w2.heap.size wr gr gl (n : Int) v1 u7 (lineC n) (lineP n ap) by have h := ST.out; rw [hi] at h; exact h)
      clear hi
      obtain ⟨a0, a1, af0, af1, r0, r1, rf0, rf1⟩ := ST.out.at_
      obtain ⟨A1, c1, rfl⟩ := Kd.R_slice ST.out.H1
      obtain ⟨A2, c2, rfl⟩ := Kd.R_slice ST.out.H2
      have KR := Aside0.mk (blk_put (blk_put ST.out.hr 0 (.int .i64 (n : Int)) rfl) 1 (.slice A1 (lineC n).length c1) rfl)
      have HR1 := Aside0.mk (R_off (p := ⟨gr, 1, none⟩) rfl (R_off (p := ⟨gr, 0, none⟩) rfl ST.out.H1 (Kd.R_ne ST.out.H1 ST.out.hr (by decide)) (.int .i64 (n : Int))) (Kd.R_ne ST.out.H1 ST.out.hr (by decide)) (.slice A1 (lineC n).length c1))
      have HR2 := Aside0.mk (R_off (p := ⟨gr, 1, none⟩) rfl (R_off (p := ⟨gr, 0, none⟩) rfl ST.out.H2 (Kd.R_ne ST.out.H2 ST.out.hr (by decide)) (.int .i64 (n : Int))) (Kd.R_ne ST.out.H2 ST.out.hr (by decide)) (.slice A1 (lineC n).length c1))
      have HBB := Aside0.mk (below_set (j := 1) (v := .slice A1 (lineC n).length c1) (below_set (j := 0) (v := .int .i64 (n : Int)) ST.out.hB ST.out.rge) ST.out.rge)
      go_wp2_with fail
      refine bodyPost_ret (results_ct rfl _ _ gr 30 #[.int .i64 (n : Int), .slice A1 (lineC n).length c1] (0, 0) _ rfl KR.out Try.underlying30 rfl (by kernel_rfl)) rfl ?_
      exact ⟨_, _, rfl, Kd.R_lower HR1.out ST.out.b1, Kd.R_lower HR2.out ST.out.b1, HBB.out⟩
end Go.Proofs.Ytpdnabhpkdchjaa.P
namespace Go.Proofs.Ytpdnabhpkdchjaa.P
open Go.RowKit Go.Proofs.YtpdnabhpkdchjaaW.PrintWords Go.Proofs.YtpdnabhpkdchjaaW.PrintLast Go.Proofs.YtpdnabhpkdchjaaW.PrintMore
attribute [local go_sem ↓] Go.wp_at_zero Go.wp_at_succ
set_option linter.unusedVariables false
set_option linter.unusedSimpArgs false
structure DoSt (w0 w : World) (gl gs ge gd : Nat) (lv sv ev dv : List Value) (v1 v2 : Value) (ss : List S50) (dd : List Bool) : Prop where
  hl : w.heap[gl]? = some (.cells lv.toArray 30 (0, 0))
  hs : w.heap[gs]? = some (.cells sv.toArray 46 (0, 0))
  he : w.heap[ge]? = some (.cells ev.toArray 56 (0, 0))
  hd : w.heap[gd]? = some (.cells dv.toArray 48 (0, 0))
  H1 : Kd.R k50 50 w w0.heap.size (fun _ => True) v1 ss
  H2 : Kd.R Kd.bool 4 w w0.heap.size (fun _ => True) v2 dd
  hB : Below w0.heap.size w0 w
  gle : w0.heap.size ≤ gl
  gse : w0.heap.size ≤ gs
  gee : w0.heap.size ≤ ge
  gde : w0.heap.size ≤ gd
theorem DoSt.begin {w0 w : World} {gl gs ge gd : Nat} {lv ev dv : List Value} {x0 x1 x2 v0 v1 v2 : Value} {ss : List S50} {dd : List Bool}
    (hl : w.heap[gl]? = some (.cells lv.toArray 30 (0, 0))) (hs : w.heap[gs]? = some (.cells #[x0, x1, x2] 46 (0, 0))) (he : w.heap[ge]? = some (.cells ev.toArray 56 (0, 0))) (hd : w.heap[gd]? = some (.cells dv.toArray 48 (0, 0)))
    (H1 : Kd.R k50 50 w w0.heap.size (fun _ => True) v1 ss) (H2 : Kd.R Kd.bool 4 w w0.heap.size (fun _ => True) v2 dd) (hB : Below w0.heap.size w0 w)
    (gle : w0.heap.size ≤ gl) (gse : w0.heap.size ≤ gs) (gee : w0.heap.size ≤ ge) (gde : w0.heap.size ≤ gd) (n1 : gl ≠ gs) (n2 : ge ≠ gs) (n3 : gd ≠ gs) :
    DoSt w0 (((w.setCell ⟨gs, 0, none⟩ v0).setCell ⟨gs, 1, none⟩ v1).setCell ⟨gs, 2, none⟩ v2) gl gs ge gd lv [v0, v1, v2] ev dv v1 v2 ss dd where
  hl := blk_far (blk_far (blk_far hl n1 _) n1 _) n1 _
  hs := blk_put (blk_put (blk_put hs 0 v0 rfl) 1 v1 rfl) 2 v2 rfl
  he := blk_far (blk_far (blk_far he n2 _) n2 _) n2 _
  hd := blk_far (blk_far (blk_far hd n3 _) n3 _) n3 _
  H1 := R_off rfl (R_off rfl (R_off rfl H1 (Kd.R_ne H1 hs (by decide)) _) (Kd.R_ne H1 hs (by decide)) _) (Kd.R_ne H1 hs (by decide)) _
  H2 := R_off rfl (R_off rfl (R_off rfl H2 (Kd.R_ne H2 hs (by decide)) _) (Kd.R_ne H2 hs (by decide)) _) (Kd.R_ne H2 hs (by decide)) _
  hB := below_set (below_set (below_set hB gse) gse) gse
  gle := gle
  gse := gse
  gee := gee
  gde := gde
theorem cnt_any (s b : Int) (bo : Bool) (g gr n c : Nat) (v2 : Value) (l : List S50) (w : World) (base : Nat) (ok : Nat → Prop) (h1 : s < n)
    (hb : w.heap[g]? = some (.cells #[.bool bo, .slice (some ⟨gr, 0, none⟩) n c, v2] 46 (0, 0))) (HO : Kd.R k50 50 w base ok (.slice (some ⟨gr, 0, none⟩) n c) l) :
    Calls Try.prog 130 #[.int .i64 s, .int .i64 b, .pointer (some ⟨g, 0, none⟩)] w fun e w' => e = .returned (.tuple #[]) ∧ Kd.R k50 50 w' base ok (.slice (some ⟨gr, 0, none⟩) n c) (addS l s b) ∧ w.grownBy w' (some gr) := by
  by_cases h0 : s < 0
  · refine (cnt_out s b _ w h0).mono ?_
    rintro e w' ⟨he, rfl⟩
    exact ⟨he, by rw [addS, if_pos h0]; exact HO, World.grownBy.refl w _⟩
  · rw [addS, if_neg h0]
    exact cnt_calls s b bo g gr n c v2 l w base ok (by omega) h1 hb HO
theorem lose_any (s : Int) (bo : Bool) (g gr n c : Nat) (v2 : Value) (l : List S50) (w : World) (base : Nat) (ok : Nat → Prop) (h1 : s < n)
    (hb : w.heap[g]? = some (.cells #[.bool bo, .slice (some ⟨gr, 0, none⟩) n c, v2] 46 (0, 0))) (HO : Kd.R k50 50 w base ok (.slice (some ⟨gr, 0, none⟩) n c) l) :
    Calls Try.prog 131 #[.int .i64 s, .pointer (some ⟨g, 0, none⟩)] w fun e w' => e = .returned (.tuple #[]) ∧ Kd.R k50 50 w' base ok (.slice (some ⟨gr, 0, none⟩) n c) (loseAt l s) ∧ w.grownBy w' (some gr) := by
  by_cases h0 : s < 0
  · refine (lose_none s _ w h0).mono ?_
    rintro e w' ⟨he, rfl⟩
    exact ⟨he, by rw [loseAt, if_pos h0]; exact HO, World.grownBy.refl w _⟩
  · rw [loseAt, if_neg h0]
    exact lose_calls s bo g gr n c v2 l w base ok (by omega) h1 hb HO
theorem told_at {n : Int} {A : Option Addr} {c : Nat} {l : List S88} {b : Bool} {A1 : Option Addr} {c1 : Nat} {ss : List S50} {A2 : Option Addr} {c2 : Nat} {dd : List Bool} {w : World} (i : Int) (hr : Kd.C k88 w A l.length l) (hc : l.length ≤ c) (hr1 : Kd.C k50 w A1 ss.length ss) (hc1 : ss.length ≤ c1) (hr2 : Kd.C Kd.bool w A2 dd.length dd) (hc2 : dd.length ≤ c2)
    (hl : l.length ≤ 1048576) (hd : dd.length = l.length) (h0 : 0 ≤ i) (h1 : i < ss.length) :
    Calls Try.prog 97 #[.agg #[.int .i64 n, .slice A l.length c], .agg #[.bool b, .slice A1 ss.length c1, .slice A2 dd.length c2], .int .i64 i] w fun e w' => e = .returned (.int .i64 (toldC l dd i (rd_T50 ss i))) ∧ Below w.heap.size w w' := by
  obtain ⟨k, h⟩ := (implTold_ev n l dd b ss i hl hd h0 h1).rounds
  exact impl_told.calls k n A c l b A1 c1 ss A2 c2 dd i _ w hr hc hr1 hc1 hr2 hc2 h
theorem dead_at {n : Int} {A : Option Addr} {c : Nat} {l : List S88} {b : Bool} {A1 : Option Addr} {c1 : Nat} {ss : List S50} {A2 : Option Addr} {c2 : Nat} {dd : List Bool} {w : World} {x : Bool} (i : Int) (hx : deadAt l dd i = x) (hr : Kd.C k88 w A l.length l) (hc : l.length ≤ c) (hr1 : Kd.C k50 w A1 ss.length ss) (hc1 : ss.length ≤ c1) (hr2 : Kd.C Kd.bool w A2 dd.length dd) (hc2 : dd.length ≤ c2)
    (hl : l.length ≤ 1048576) (hd : dd.length = l.length) :
    Calls Try.prog 98 #[.agg #[.int .i64 n, .slice A l.length c], .agg #[.bool b, .slice A1 ss.length c1, .slice A2 dd.length c2], .int .i64 i] w fun e w' => e = .returned (.bool x) ∧ Below w.heap.size w w' := by
  obtain ⟨k, h⟩ := (implDead_ev n l dd b ss i hl hd).rounds
  rw [← hx]
  exact impl_dead.calls k n A c l b A1 c1 ss A2 c2 dd i _ w hr hc hr1 hc1 hr2 hc2 h
theorem bool_at {w : World} {base : Nat} {ok : Nat → Prop} {g n c : Nat} {dd : List Bool} (h : Kd.R Kd.bool 4 w base ok (.slice (some ⟨g, 0, none⟩) n c) dd) (i : Int) (h0 : 0 ≤ i) (h1 : i < n) :
    w.cell? ⟨g, i.toNat, none⟩ = some (.bool (rdOf false dd i)) ∧ w.frozen? ⟨g, i.toNat, none⟩ = false := by
  obtain ⟨ce, hcl, hM, hcc, hfr⟩ := Kd.R_elem h false i h0 h1
  have hM0 : ce = [.bool (dd.getD i.toNat false)] := hM
  subst hM0
  have e : i.toNat * Kd.bool.sz + 0 = i.toNat := by show i.toNat * 1 + 0 = _; omega
  have q1 := hcc 0 _ rfl
  have q2 := hfr 0
  rw [e] at q1 q2
  exact ⟨q1, q2⟩
theorem own_ge {α : Type} {d : Kd α} {e : Nat} {w : World} {base : Nat} {ok : Nat → Prop} {g n c : Nat} {xs : List α} (h : d.R e w base ok (.slice (some ⟨g, 0, none⟩) n c) xs) : base ≤ g := by
  rcases Kd.R_base2 h with h | ⟨k, hk, hb⟩
  · cases h
  · cases hk; exact hb
section
variable {w0 w w' : World} {gl gs ge gd : Nat} {lv sv ev dv : List Value} {v1 v2 : Value} {ss ss' : List S50} {dd dd' : List Bool}
theorem DoSt.sec {gr m cr : Nat} (h : DoSt w0 w gl gs ge gd lv sv ev dv (.slice (some ⟨gr, 0, none⟩) m cr) v2 ss dd) (H1 : Kd.R k50 50 w' w0.heap.size (fun _ => True) (.slice (some ⟨gr, 0, none⟩) m cr) ss') (hg : w.grownBy w' (some gr)) :
    DoSt w0 w' gl gs ge gd lv sv ev dv (.slice (some ⟨gr, 0, none⟩) m cr) v2 ss' dd where
  hl := blk_grown h.hl hg (Kd.R_ne h.H1 h.hl (by decide))
  hs := blk_grown h.hs hg (Kd.R_ne h.H1 h.hs (by decide))
  he := blk_grown h.he hg (Kd.R_ne h.H1 h.he (by decide))
  hd := blk_grown h.hd hg (Kd.R_ne h.H1 h.hd (by decide))
  H1 := H1
  H2 := R_on rfl h.H2 hg (by
    obtain ⟨inner, ho⟩ := Kd.R_own h.H1
    obtain ⟨cells, hc⟩ := own_typed ho gr rfl
    exact Kd.R_ne h.H2 hc (by decide))
  hB := pw_below_grown h.hB _ h.hB.size hg (fun k hk => by cases hk; exact own_ge h.H1)
  gle := h.gle
  gse := h.gse
  gee := h.gee
  gde := h.gde
theorem DoSt.dead {gb m cb : Nat} (h : DoSt w0 w gl gs ge gd lv sv ev dv v1 (.slice (some ⟨gb, 0, none⟩) m cb) ss dd) (i : Int) (x : Bool) :
    DoSt w0 (w.setCell ⟨gb, i.toNat, none⟩ (.bool x)) gl gs ge gd lv sv ev dv v1 (.slice (some ⟨gb, 0, none⟩) m cb) ss (dd.set i.toNat x) := by
  obtain ⟨H2, hg⟩ := Kd.R_putg h.H2 i x
  exact {
  hl := blk_grown h.hl hg (Kd.R_ne h.H2 h.hl (by decide))
  hs := blk_grown h.hs hg (Kd.R_ne h.H2 h.hs (by decide))
  he := blk_grown h.he hg (Kd.R_ne h.H2 h.he (by decide))
  hd := blk_grown h.hd hg (Kd.R_ne h.H2 h.hd (by decide))
  H1 := R_on rfl h.H1 hg (by
    obtain ⟨inner, ho⟩ := Kd.R_own h.H2
    obtain ⟨cells, hc⟩ := own_typed ho gb rfl
    exact Kd.R_ne h.H1 hc (by decide))
  H2 := H2
  hB := pw_below_grown h.hB _ h.hB.size hg (fun k hk => by cases hk; exact own_ge h.H2)
  gle := h.gle
  gse := h.gse
  gee := h.gee
  gde := h.gde }
theorem DoSt.up (h : DoSt w0 w gl gs ge gd lv sv ev dv v1 v2 ss dd) (hb : Below w.heap.size w w') : DoSt w0 w' gl gs ge gd lv sv ev dv v1 v2 ss dd where
  hl := blk_below h.hl hb
  hs := blk_below h.hs hb
  he := blk_below h.he hb
  hd := blk_below h.hd hb
  H1 := R_up h.H1 hb
  H2 := R_up h.H2 hb
  hB := below_step h.hB hb
  gle := h.gle
  gse := h.gse
  gee := h.gee
  gde := h.gde
theorem DoSt.fill {x0 x1 x2 x3 y0 y1 y2 y3 : Value} (h : DoSt w0 w gl gs ge gd lv sv ev [x0, x1, x2, x3] v1 v2 ss dd) :
    DoSt w0 ((((w.setCell ⟨gd, 0, none⟩ y0).setCell ⟨gd, 1, none⟩ y1).setCell ⟨gd, 2, none⟩ y2).setCell ⟨gd, 3, none⟩ y3) gl gs ge gd lv sv ev [y0, y1, y2, y3] v1 v2 ss dd where
  hl := blk_far (blk_far (blk_far (blk_far h.hl (blk_ne h.hl h.hd (by decide)) _) (blk_ne h.hl h.hd (by decide)) _) (blk_ne h.hl h.hd (by decide)) _) (blk_ne h.hl h.hd (by decide)) _
  hs := blk_far (blk_far (blk_far (blk_far h.hs (blk_ne h.hs h.hd (by decide)) _) (blk_ne h.hs h.hd (by decide)) _) (blk_ne h.hs h.hd (by decide)) _) (blk_ne h.hs h.hd (by decide)) _
  he := blk_far (blk_far (blk_far (blk_far h.he (blk_ne h.he h.hd (by decide)) _) (blk_ne h.he h.hd (by decide)) _) (blk_ne h.he h.hd (by decide)) _) (blk_ne h.he h.hd (by decide)) _
  hd := blk_put (blk_put (blk_put (blk_put h.hd 0 y0 rfl) 1 y1 rfl) 2 y2 rfl) 3 y3 rfl
  H1 := R_off rfl (R_off rfl (R_off rfl (R_off rfl h.H1 (Kd.R_ne h.H1 h.hd (by decide)) _) (Kd.R_ne h.H1 h.hd (by decide)) _) (Kd.R_ne h.H1 h.hd (by decide)) _) (Kd.R_ne h.H1 h.hd (by decide)) _
  H2 := R_off rfl (R_off rfl (R_off rfl (R_off rfl h.H2 (Kd.R_ne h.H2 h.hd (by decide)) _) (Kd.R_ne h.H2 h.hd (by decide)) _) (Kd.R_ne h.H2 h.hd (by decide)) _) (Kd.R_ne h.H2 h.hd (by decide)) _
  hB := below_set (below_set (below_set (below_set h.hB h.gde) h.gde) h.gde) h.gde
  gle := h.gle
  gse := h.gse
  gee := h.gee
  gde := h.gde
end
theorem evOk_cases {n : Int} {l : List S88} {op of dir : Int} (h : eventOk n l op of dir = true) :
    ((op = 1 ∨ op = 2) ∧ 0 ≤ of ∧ of < (l.length : Int) ∧ (dir = 1 ∨ dir = -1)) ∨ ((op = 3 ∨ op = 4) ∧ 0 ≤ of ∧ of < (l.length : Int)) ∨ (op = 5 ∧ 0 ≤ of ∧ of < n) := by
  unfold eventOk at h
  split at h
  · split at h
    · rename_i h1
      simp at h
      exact .inl ⟨h1, h.1.1, h.1.2, h.2⟩
    · split at h
      · rename_i h1
        simp at h
        exact .inr (.inl ⟨h1, h.1.1, h.1.2⟩)
      · split at h
        · rename_i h1
          simp at h
          exact .inr (.inr ⟨h1, h.1.1, h.1.2⟩)
        · cases h
  · cases h
theorem told_of {n : Int} {A : Option Addr} {c : Nat} {l : List S88} {b : Bool} {A1 : Option Addr} {m1 c1 : Nat} {ss : List S50} {A2 : Option Addr} {m2 c2 : Nat} {dd : List Bool} {w : World} {b1 b2 : Nat} {o1 o2 : Nat → Prop} (i : Int) (hr : Kd.C k88 w A l.length l) (hc : l.length ≤ c) (H1 : Kd.R k50 50 w b1 o1 (.slice A1 m1 c1) ss) (H2 : Kd.R Kd.bool 4 w b2 o2 (.slice A2 m2 c2) dd) (e1 : m1 = ss.length) (e2 : m2 = dd.length)
    (hl : l.length ≤ 1048576) (hd : dd.length = l.length) (h0 : 0 ≤ i) (h1 : i < m1) :
    Calls Try.prog 97 #[.agg #[.int .i64 n, .slice A l.length c], .agg #[.bool b, .slice A1 m1 c1, .slice A2 m2 c2], .int .i64 i] w fun e w' => e = .returned (.int .i64 (toldC l dd i (rd_T50 ss i))) ∧ Below w.heap.size w w' := by
  subst e1 e2
  exact told_at i hr hc (Kd.R_reads' H1).2.2 (Kd.R_reads' H1).2.1 (Kd.R_reads' H2).2.2 (Kd.R_reads' H2).2.1 hl hd h0 h1
theorem retold_step (l : List S88) (dd : List Bool) (ss : List S50) (k : Nat) (hk : k < ss.length) :
    (retoldTo l dd ss k).set (k : Int).toNat ⟨toldC l dd (k : Int) (rd_T50 (retoldTo l dd ss k) (k : Int)), (rd_T50 (retoldTo l dd ss k) (k : Int)).f1, (rd_T50 (retoldTo l dd ss k) (k : Int)).f2, (rd_T50 (retoldTo l dd ss k) (k : Int)).f3, (rd_T50 (retoldTo l dd ss k) (k : Int)).f4⟩ = retoldTo l dd ss (k + 1) := by
  rw [Int.toNat_natCast, retoldTo_at l dd ss k hk]
  exact retoldTo_succ l dd ss k hk
set_option maxHeartbeats 4000000 in
set_option maxRecDepth 100000 in
theorem do_is (n : Int) (A : Option Addr) (c : Nat) (l : List S88) (b : Bool) (A1 : Option Addr) (c1 : Nat) (ss : List S50) (A2 : Option Addr) (c2 : Nat) (dd : List Bool) (op of dir : Int) (w : World)
    (hr : Kd.C k88 w A l.length l) (hc : l.length ≤ c) (hr1 : Kd.C k50 w A1 ss.length ss) (hc1 : ss.length ≤ c1) (hr2 : Kd.C Kd.bool w A2 dd.length dd) (hc2 : dd.length ≤ c2)
    (hl : layoutOk n l = 0) (hns : (ss.length : Int) = n) (hnd : dd.length = l.length) (hev : eventOk n l op of dir = true) :
    Calls Try.prog 96 #[.agg #[.int .i64 n, .slice A l.length c], .agg #[.bool b, .slice A1 ss.length c1, .slice A2 dd.length c2], .agg #[.int .i64 op, .int .i64 of, .int .i64 dir]] w fun e w' => ∃ v2_ v3_ : Value, e = .returned (.agg #[.int .i64 (doCode l ss dd op of), .bool true, v2_, v3_]) ∧ Kd.R k50 50 w' w.heap.size (fun _ => True) v2_ (doSecs l ss dd op of dir) ∧ Kd.R Kd.bool 4 w' w.heap.size (fun _ => True) v3_ (doDead l ss dd op of) ∧ Below w.heap.size w w' := by
  have hn := lay_n hl
  have hs : ss.length ≤ 1000000 := by omega
  have hd : dd.length ≤ 1000000 := by omega
  have hpos : 0 < ss.length := by omega
  have HN := Aside0.mk (And.intro hl (And.intro hns (And.intro hnd hev)))
  clear hn hl hns hnd hev
  have f1 : impl_Section.f ss = some ss := by unfold impl_Section.f; rw [if_pos hs]
  have f2 : slices_Clone_bool_bool.f dd = some dd := by unfold slices_Clone_bool_bool.f; rw [if_pos hd]
  have HR := Aside0.mk hr
  have HR1 := Aside0.mk hr1
  have HR2 := Aside0.mk hr2
  clear hr hr1 hr2
  go_enter Try.func96, Try.ntmps96
  go_upto_region 1 with (first | ((with_reducible refine gate_dst (N := 3) rfl ?_); refine box_event ?hg (N := 3) ?hd (cs := #[.int .i64 n, .slice A l.length c]) (t := 30) ?hr ?_; (case hd => rfl); (case hg => rfl); (case hr => first | (go_simp; done) | (go_simp; rfl)); intro gl el wl kl bl) | ((with_reducible refine gate_dst (N := 4) rfl ?_); refine box_event ?hg (N := 4) ?hd (cs := #[.bool b, .slice A1 ss.length c1, .slice A2 dd.length c2]) (t := 46) ?hr ?_; (case hd => rfl); (case hg => rfl); (case hr => first | (go_simp; done) | (go_simp; rfl)); intro gs es ws ks bs) | ((with_reducible refine gate_dst (N := 5) rfl ?_); refine box_event ?hg (N := 5) ?hd (cs := #[.int .i64 op, .int .i64 of, .int .i64 dir]) (t := 56) ?hr ?_; (case hd => rfl); (case hg => rfl); (case hr => first | (go_simp; done) | (go_simp; rfl)); intro ge ee we ke be) | ((with_reducible refine gate_dst (N := 6) rfl ?_); refine box_event ?hg (N := 6) ?hd (cs := #[.int .i64 0, .bool false, .slice none 0 0, .slice none 0 0]) (t := 48) ?hr ?_; (case hd => rfl); (case hg => rfl); (case hr => first | (go_simp; done) | (go_simp; rfl)); intro gd ed wd kd_ bd))
  have KL := Aside0.mk (blk_below (blk_below (blk_below kl bs) be) bd)
  have KS := Aside0.mk (blk_below (blk_below ks be) bd)
  have KE := Aside0.mk (blk_below ke bd)
  have KD := Aside0.mk kd_
  have BB := Aside0.mk (below_step (below_step (below_step bl bs) be) bd)
  have GL := Aside0.mk (show w.heap.size ≤ gl by rw [el]; exact Nat.le_refl _)
  have GS := Aside0.mk (show w.heap.size ≤ gs by rw [es]; exact bl.size)
  have GE := Aside0.mk (show w.heap.size ≤ ge by rw [ee]; exact (below_step bl bs).size)
  have GD := Aside0.mk (show w.heap.size ≤ gd by rw [ed]; exact (below_step (below_step bl bs) be).size)
  clear kl ks ke kd_ bl bs be bd el es ee ed
  simp only [Act.put, List.setIfInBounds_toArray, List.set_cons_zero, List.set_cons_succ]
  go_cut [] from 12 to 18 (fun wx => ∃ v1 v2 : Value, DoSt w wx gl gs ge gd [.int .i64 n, .slice A l.length c] [.bool true, v1, v2] [.int .i64 op, .int .i64 of, .int .i64 dir] [.int .i64 0, .bool false, .slice none 0 0, .slice none 0 0] v1 v2 ss dd)
  case first =>
    have e1 : wd.drew.cell? ⟨gs, 1, none⟩ = some (.slice A1 ss.length c1) := (blk_cell (blk_drew KS.out) 1).trans rfl
    have e2 : wd.drew.cell? ⟨gs, 2, none⟩ = some (.slice A2 dd.length c2) := (blk_cell (blk_drew KS.out) 2).trans rfl
    have kx := Aside0.mk (blk_drew KS.out)
    have bx := Aside0.mk (below_drew1 BB.out)
    have by_ := Aside0.mk (below_drew1 (Below.refl wd.heap.size wd))
    go_region_with (first | (go_at_call 94; refine (impl_Section.calls A1 c1 ss ss _ (Kd.C_below HR1.out bx.out) hc1 f1).mono ?_; rintro e w' ⟨v1, rfl, ho1, hb1⟩; obtain ⟨Aa, ca, rfl⟩ := Kd.R_slice ho1; have kx := Aside0.mk (blk_below kx.out hb1); have c0_ : w'.cell? ⟨gs, 0, none⟩ = some (.bool b) := (blk_cell kx.out 0).trans rfl; have c1_ : w'.cell? ⟨gs, 1, none⟩ = some (.slice A1 ss.length c1) := (blk_cell kx.out 1).trans rfl; have c2_ : w'.cell? ⟨gs, 2, none⟩ = some (.slice A2 dd.length c2) := (blk_cell kx.out 2).trans rfl; have z0_ := blk_frozen kx.out 0; have z1_ := blk_frozen kx.out 1; have z2_ := blk_frozen kx.out 2; have HO1 := Aside0.mk (Kd.R_lower ho1 bx.out.size); (try (have HO2 := Aside0.mk (R_up HO2.out hb1))); have bx := Aside0.mk (below_step bx.out hb1); have by_ := Aside0.mk (below_step by_.out hb1); clear hb1 ho1) | (go_at_call 95; refine (slices_Clone_bool_bool.calls A2 c2 dd dd _ (Kd.C_below HR2.out bx.out) hc2 f2).mono ?_; rintro e w' ⟨v2, rfl, ho2, hb2⟩; obtain ⟨Ab, cb, rfl⟩ := Kd.R_slice ho2; have kx := Aside0.mk (blk_below kx.out hb2); have c0_ : w'.cell? ⟨gs, 0, none⟩ = some (.bool b) := (blk_cell kx.out 0).trans rfl; have c1_ : w'.cell? ⟨gs, 1, none⟩ = some (.slice A1 ss.length c1) := (blk_cell kx.out 1).trans rfl; have c2_ : w'.cell? ⟨gs, 2, none⟩ = some (.slice A2 dd.length c2) := (blk_cell kx.out 2).trans rfl; have z0_ := blk_frozen kx.out 0; have z1_ := blk_frozen kx.out 1; have z2_ := blk_frozen kx.out 2; have HO2 := Aside0.mk (Kd.R_lower ho2 bx.out.size); (try (have HO1 := Aside0.mk (R_up HO1.out hb2))); have bx := Aside0.mk (below_step bx.out hb2); have by_ := Aside0.mk (below_step by_.out hb2); clear hb2 ho2))
    all_goals (go_wp2_with fail; go_meet)
    all_goals exact ⟨_, _, DoSt.begin (blk_below KL.out by_.out) kx.out (blk_below KE.out by_.out) (blk_below KD.out by_.out) HO1.out HO2.out bx.out GL.out GS.out GE.out GD.out (blk_ne KL.out KS.out (by decide)) (blk_ne KE.out KS.out (by decide)) (blk_ne KD.out KS.out (by decide))⟩
  case rest =>
    obtain ⟨v1, v2, ST⟩ := hcut
    obtain ⟨gr, cr, e1, _, _, _⟩ := Kd.R_form ST.H1 hpos
    obtain ⟨Ad, cd, e2⟩ := Kd.R_slice ST.H2
    subst e1 e2
    have SA := Aside0.mk (show DoSt w wc gl gs ge gd [.int .i64 n, .slice A l.length c] [.bool true, .slice (some ⟨gr, 0, none⟩) ss.length cr, .slice Ad dd.length cd] [.int .i64 op, .int .i64 of, .int .i64 dir] [.int .i64 0, .bool false, .slice none 0 0, .slice none 0 0] (.slice (some ⟨gr, 0, none⟩) ss.length cr) (.slice Ad dd.length cd) ss dd from ST)
    have ce0 : wc.cell? ⟨ge, 0, none⟩ = some (.int .i64 op) := (blk_cell ST.he 0).trans rfl
    have ce1 : wc.cell? ⟨ge, 1, none⟩ = some (.int .i64 of) := (blk_cell ST.he 1).trans rfl
    have ce2 : wc.cell? ⟨ge, 2, none⟩ = some (.int .i64 dir) := (blk_cell ST.he 2).trans rfl
    have cs1 : wc.cell? ⟨gs, 1, none⟩ = some (.slice (some ⟨gr, 0, none⟩) ss.length cr) := (blk_cell ST.hs 1).trans rfl
    have cs2 : wc.cell? ⟨gs, 2, none⟩ = some (.slice Ad dd.length cd) := (blk_cell ST.hs 2).trans rfl
    have cs0 : wc.cell? ⟨gs, 0, none⟩ = some (.bool true) := (blk_cell ST.hs 0).trans rfl
    have cl0 : wc.cell? ⟨gl, 0, none⟩ = some (.int .i64 n) := (blk_cell ST.hl 0).trans rfl
    have cl1 : wc.cell? ⟨gl, 1, none⟩ = some (.slice A l.length c) := (blk_cell ST.hl 1).trans rfl
    clear ST KL KS KE KD BB
    go_upto_block 0 with fail
    go_cut [] from 9 to 115 (fun wx => Aside0 (DoSt w wx gl gs ge gd [.int .i64 n, .slice A l.length c] [.bool true, .slice (some ⟨gr, 0, none⟩) ss.length cr, .slice Ad dd.length cd] [.int .i64 op, .int .i64 of, .int .i64 dir] [.int .i64 0, .bool false, .slice none 0 0, .slice none 0 0] (.slice (some ⟨gr, 0, none⟩) ss.length cr) (.slice Ad dd.length cd) (midSecs l ss op of dir) (midDead dd op of)) ∧ Aside0 (doCode l ss dd op of = 0))
    case first =>
      obtain ⟨hl, hns, hnd, hev⟩ := HN.out
      have hln := lay_n hl
      have HL2 := Aside0.mk hln
      rcases evOk_cases hev with ⟨hop, ho0, ho1, hdir⟩ | ⟨hop, ho0, ho1⟩ | ⟨rfl, ho0, ho1⟩
      · have lr := lay_rd hl of ho0 ho1
        have ho2 := ho1
        rw [← hnd] at ho1
        obtain ⟨gb, cb, e, _, _, _⟩ := Kd.R_form SA.out.H2 (show 0 < dd.length by omega)
        cases e
        obtain ⟨x0, xf⟩ := bool_at SA.out.H2 of ho0 ho1
        obtain ⟨ad, e, y0, y1⟩ := at_T88 HR.out of ho0 (by omega)
        subst e
        have lr0 : (rd_T88 l of).f0 < (ss.length : Int) := by omega
        have lr1 : (rd_T88 l of).f1 < (ss.length : Int) := by omega
        have LR0 := Aside0.mk lr0
        have LR1 := Aside0.mk lr1
        clear lr lr0 lr1 hl hns hnd hev hln
        have Y0 := Aside0.mk y0
        have Y1 := Aside0.mk y1
        clear y0 y1
        rcases Bool.eq_false_or_eq_true (rdOf false dd of) with hdo | hdo
        · rw [hdo] at x0
          have HDO := Aside0.mk hdo
          clear hdo
          have hc2 : doCode l ss dd op of = 2 := by unfold doCode; rw [if_pos hop, if_pos HDO.out]
          have HC2 := Aside0.mk hc2
          clear hc2
          have kd0 := (blk_cell SA.out.hd 0).trans (show _ = some (Value.int .i64 0) from rfl)
          have kd1 := (blk_cell SA.out.hd 1).trans (show _ = some (Value.bool false) from rfl)
          have kd2 := (blk_cell SA.out.hd 2).trans (show _ = some (Value.slice none 0 0) from rfl)
          have kd3 := (blk_cell SA.out.hd 3).trans (show _ = some (Value.slice none 0 0) from rfl)
          have kz0 := blk_frozen SA.out.hd 0
          have kz1 := blk_frozen SA.out.hd 1
          have kz2 := blk_frozen SA.out.hd 2
          have kz3 := blk_frozen SA.out.hd 3
          rcases hop with rfl | rfl
          all_goals
            go_wp2_with fail
            have SF := SA.out.fill (y0 := .int .i64 2) (y1 := .bool true) (y2 := (.slice (some ⟨gr, 0, none⟩) ss.length cr)) (y3 := (.slice (some ⟨gb, 0, none⟩) dd.length cd))
            refine bodyPost_ret (results_cell_row rfl _ _ gd 48 _ (0, 0) _ rfl SF.hd Try.underlying48 rfl (by kernel_rfl)) rfl ⟨_, _, by rw [HC2.out], ?_, ?_, SF.hB⟩
            · unfold doSecs; rw [HC2.out]; exact SF.H1
            · unfold doDead; rw [HC2.out]; exact SF.H2
        · rw [hdo] at x0
          have HDO := Aside0.mk hdo
          clear hdo
          have y0 := pw_cell_below SA.out.hB Y0.out
          have y1 := pw_cell_below SA.out.hB Y1.out
          rcases hdir with rfl | rfl
          · rcases hop with rfl | rfl
            · go_upto_region 12 with (first | ((with_reducible refine gate_dst (N := 9) rfl ?_); refine box_event ?hg (N := 9) ?hd (cs := #[.int .i64 0, .int .i64 0]) (t := 88) ?hr ?_; (case hd => rfl); (case hg => rfl); (case hr => first | (go_simp; done) | (go_simp; rfl)); intro gc ec wb kc bc; have KC := Aside0.mk kc; have EC := Aside0.mk ec; have BC := Aside0.mk bc; have zc0 := blk_frozen kc 0; have zc1 := blk_frozen kc 1; have kc0 := (blk_cell kc 0).trans (show _ = some (Value.int .i64 0) from rfl); have kc1 := (blk_cell kc 1).trans (show _ = some (Value.int .i64 0) from rfl); have e0 := pw_cell_below bc ce0; have e1 := pw_cell_below bc ce1; have e2 := pw_cell_below bc ce2; have ss1 := pw_cell_below bc cs1; have ss2 := pw_cell_below bc cs2; clear kc ec bc))
              have KX := Aside0.mk (blk_put (blk_put KC.out 0 (.int .i64 (rd_T88 l of).f0) rfl) 1 (.int .i64 (rd_T88 l of).f1) rfl)
              have BX := Aside0.mk (below_set (j := 1) (v := (.int .i64 (rd_T88 l of).f1)) (below_set (j := 0) (v := (.int .i64 (rd_T88 l of).f0)) BC.out (Nat.le_of_eq EC.out.symm)) (Nat.le_of_eq EC.out.symm))
              have S1 := Aside0.mk (SA.out.up BX.out)
              clear SA ce0 ce1 ce2 cs0 cs1 cs2 cl0 cl1 x0 xf KC BC BX zc0 zc1 kc0 kc1 e0 e1 e2 ss1 ss2 y0 y1 EC
              generalize ((wb.setCell ⟨gc, 0, none⟩ (.int .i64 (rd_T88 l of).f0)).setCell ⟨gc, 1, none⟩ (.int .i64 (rd_T88 l of).f1)) = w1 at S1 KX ⊢
              have kge0 : w1.cell? ⟨ge, 0, none⟩ = some (.int .i64 1) := (blk_cell S1.out.he 0).trans rfl
              have kge1 : w1.cell? ⟨ge, 1, none⟩ = some (.int .i64 of) := (blk_cell S1.out.he 1).trans rfl
              have kge2 : w1.cell? ⟨ge, 2, none⟩ = some (.int .i64 1) := (blk_cell S1.out.he 2).trans rfl
              have kgs0 : w1.cell? ⟨gs, 0, none⟩ = some (.bool true) := (blk_cell S1.out.hs 0).trans rfl
              have kgs1 : w1.cell? ⟨gs, 1, none⟩ = some (.slice (some ⟨gr, 0, none⟩) ss.length cr) := (blk_cell S1.out.hs 1).trans rfl
              have kgs2 : w1.cell? ⟨gs, 2, none⟩ = some (.slice (some ⟨gb, 0, none⟩) dd.length cd) := (blk_cell S1.out.hs 2).trans rfl
              have kgl0 : w1.cell? ⟨gl, 0, none⟩ = some (.int .i64 n) := (blk_cell S1.out.hl 0).trans rfl
              have kgl1 : w1.cell? ⟨gl, 1, none⟩ = some (.slice (some ad) l.length c) := (blk_cell S1.out.hl 1).trans rfl
              have kc0 : w1.cell? ⟨gc, 0, none⟩ = some (.int .i64 (rd_T88 l of).f0) := (blk_cell KX.out 0).trans rfl
              have kc1 : w1.cell? ⟨gc, 1, none⟩ = some (.int .i64 (rd_T88 l of).f1) := (blk_cell KX.out 1).trans rfl
              go_upto_region 14 with (go_at_call 130; refine (cnt_any _ _ true gs gr ss.length cr _ _ _ _ _ LR0.out S1.out.hs S1.out.H1).mono ?_; rintro e w2 ⟨rfl, hR, hg⟩; have S2 := Aside0.mk (S1.out.sec hR hg); have KY := Aside0.mk (blk_grown KX.out hg (Kd.R_ne S1.out.H1 KX.out (by decide))); clear hR hg)
              clear kge0 kge1 kge2 kgs0 kgs1 kgs2 kgl0 kgl1
              clear kc0 kc1 S1 KX
              have kge0 : w2.cell? ⟨ge, 0, none⟩ = some (.int .i64 1) := (blk_cell S2.out.he 0).trans rfl
              have kge1 : w2.cell? ⟨ge, 1, none⟩ = some (.int .i64 of) := (blk_cell S2.out.he 1).trans rfl
              have kge2 : w2.cell? ⟨ge, 2, none⟩ = some (.int .i64 1) := (blk_cell S2.out.he 2).trans rfl
              have kgs0 : w2.cell? ⟨gs, 0, none⟩ = some (.bool true) := (blk_cell S2.out.hs 0).trans rfl
              have kgs1 : w2.cell? ⟨gs, 1, none⟩ = some (.slice (some ⟨gr, 0, none⟩) ss.length cr) := (blk_cell S2.out.hs 1).trans rfl
              have kgs2 : w2.cell? ⟨gs, 2, none⟩ = some (.slice (some ⟨gb, 0, none⟩) dd.length cd) := (blk_cell S2.out.hs 2).trans rfl
              have kgl0 : w2.cell? ⟨gl, 0, none⟩ = some (.int .i64 n) := (blk_cell S2.out.hl 0).trans rfl
              have kgl1 : w2.cell? ⟨gl, 1, none⟩ = some (.slice (some ad) l.length c) := (blk_cell S2.out.hl 1).trans rfl
              have kc1 : w2.cell? ⟨gc, 1, none⟩ = some (.int .i64 (rd_T88 l of).f1) := (blk_cell KY.out 1).trans rfl
              go_wp2_with (go_at_call 130; refine (cnt_any _ _ true gs gr ss.length cr _ _ _ _ _ LR1.out S2.out.hs S2.out.H1).mono ?_; rintro e w3 ⟨rfl, hR, hg⟩; have S3 := Aside0.mk (S2.out.sec hR hg); clear hR hg)
              go_meet
              case rel => exact ⟨⟨S3.out⟩, ⟨by unfold doCode; rw [if_pos (by decide), HDO.out]; rfl⟩⟩
            · go_upto_region 12 with (first | ((with_reducible refine gate_dst (N := 9) rfl ?_); refine box_event ?hg (N := 9) ?hd (cs := #[.int .i64 0, .int .i64 0]) (t := 88) ?hr ?_; (case hd => rfl); (case hg => rfl); (case hr => first | (go_simp; done) | (go_simp; rfl)); intro gc ec wb kc bc; have KC := Aside0.mk kc; have EC := Aside0.mk ec; have BC := Aside0.mk bc; have zc0 := blk_frozen kc 0; have zc1 := blk_frozen kc 1; have kc0 := (blk_cell kc 0).trans (show _ = some (Value.int .i64 0) from rfl); have kc1 := (blk_cell kc 1).trans (show _ = some (Value.int .i64 0) from rfl); have e0 := pw_cell_below bc ce0; have e1 := pw_cell_below bc ce1; have e2 := pw_cell_below bc ce2; have ss1 := pw_cell_below bc cs1; have ss2 := pw_cell_below bc cs2; clear kc ec bc))
              have KX := Aside0.mk (blk_put (blk_put KC.out 0 (.int .i64 (rd_T88 l of).f0) rfl) 1 (.int .i64 (rd_T88 l of).f1) rfl)
              have BX := Aside0.mk (below_set (j := 1) (v := (.int .i64 (rd_T88 l of).f1)) (below_set (j := 0) (v := (.int .i64 (rd_T88 l of).f0)) BC.out (Nat.le_of_eq EC.out.symm)) (Nat.le_of_eq EC.out.symm))
              have S1 := Aside0.mk (SA.out.up BX.out)
              clear SA ce0 ce1 ce2 cs0 cs1 cs2 cl0 cl1 x0 xf KC BC BX zc0 zc1 kc0 kc1 e0 e1 e2 ss1 ss2 y0 y1 EC
              generalize ((wb.setCell ⟨gc, 0, none⟩ (.int .i64 (rd_T88 l of).f0)).setCell ⟨gc, 1, none⟩ (.int .i64 (rd_T88 l of).f1)) = w1 at S1 KX ⊢
              have kge0 : w1.cell? ⟨ge, 0, none⟩ = some (.int .i64 2) := (blk_cell S1.out.he 0).trans rfl
              have kge1 : w1.cell? ⟨ge, 1, none⟩ = some (.int .i64 of) := (blk_cell S1.out.he 1).trans rfl
              have kge2 : w1.cell? ⟨ge, 2, none⟩ = some (.int .i64 1) := (blk_cell S1.out.he 2).trans rfl
              have kgs0 : w1.cell? ⟨gs, 0, none⟩ = some (.bool true) := (blk_cell S1.out.hs 0).trans rfl
              have kgs1 : w1.cell? ⟨gs, 1, none⟩ = some (.slice (some ⟨gr, 0, none⟩) ss.length cr) := (blk_cell S1.out.hs 1).trans rfl
              have kgs2 : w1.cell? ⟨gs, 2, none⟩ = some (.slice (some ⟨gb, 0, none⟩) dd.length cd) := (blk_cell S1.out.hs 2).trans rfl
              have kgl0 : w1.cell? ⟨gl, 0, none⟩ = some (.int .i64 n) := (blk_cell S1.out.hl 0).trans rfl
              have kgl1 : w1.cell? ⟨gl, 1, none⟩ = some (.slice (some ad) l.length c) := (blk_cell S1.out.hl 1).trans rfl
              have kc0 : w1.cell? ⟨gc, 0, none⟩ = some (.int .i64 (rd_T88 l of).f0) := (blk_cell KX.out 0).trans rfl
              have kc1 : w1.cell? ⟨gc, 1, none⟩ = some (.int .i64 (rd_T88 l of).f1) := (blk_cell KX.out 1).trans rfl
              go_wp2_with (go_at_call 130; refine (cnt_any _ _ true gs gr ss.length cr _ _ _ _ _ LR1.out S1.out.hs S1.out.H1).mono ?_; rintro e w3 ⟨rfl, hR, hg⟩; have S3 := Aside0.mk (S1.out.sec hR hg); clear hR hg)
              go_meet
              case rel => exact ⟨⟨S3.out⟩, ⟨by unfold doCode; rw [if_pos (by decide), HDO.out]; rfl⟩⟩
          · rcases hop with rfl | rfl
            · go_upto_region 12 with (first | ((with_reducible refine gate_dst (N := 9) rfl ?_); refine box_event ?hg (N := 9) ?hd (cs := #[.int .i64 0, .int .i64 0]) (t := 88) ?hr ?_; (case hd => rfl); (case hg => rfl); (case hr => first | (go_simp; done) | (go_simp; rfl)); intro gc ec wb kc bc; have KC := Aside0.mk kc; have EC := Aside0.mk ec; have BC := Aside0.mk bc; have zc0 := blk_frozen kc 0; have zc1 := blk_frozen kc 1; have kc0 := (blk_cell kc 0).trans (show _ = some (Value.int .i64 0) from rfl); have kc1 := (blk_cell kc 1).trans (show _ = some (Value.int .i64 0) from rfl); have e0 := pw_cell_below bc ce0; have e1 := pw_cell_below bc ce1; have e2 := pw_cell_below bc ce2; have ss1 := pw_cell_below bc cs1; have ss2 := pw_cell_below bc cs2; clear kc ec bc))
              have KX := Aside0.mk (blk_put (blk_put (blk_put (blk_put KC.out 0 (.int .i64 (rd_T88 l of).f0) rfl) 1 (.int .i64 (rd_T88 l of).f1) rfl) 0 (.int .i64 (rd_T88 l of).f1) rfl) 1 (.int .i64 (rd_T88 l of).f0) rfl)
              have BX := Aside0.mk (below_set (j := 1) (v := (.int .i64 (rd_T88 l of).f0)) (below_set (j := 0) (v := (.int .i64 (rd_T88 l of).f1)) (below_set (j := 1) (v := (.int .i64 (rd_T88 l of).f1)) (below_set (j := 0) (v := (.int .i64 (rd_T88 l of).f0)) BC.out (Nat.le_of_eq EC.out.symm)) (Nat.le_of_eq EC.out.symm)) (Nat.le_of_eq EC.out.symm)) (Nat.le_of_eq EC.out.symm))
              have S1 := Aside0.mk (SA.out.up BX.out)
              clear SA ce0 ce1 ce2 cs0 cs1 cs2 cl0 cl1 x0 xf KC BC BX zc0 zc1 kc0 kc1 e0 e1 e2 ss1 ss2 y0 y1 EC
              generalize ((((wb.setCell ⟨gc, 0, none⟩ (.int .i64 (rd_T88 l of).f0)).setCell ⟨gc, 1, none⟩ (.int .i64 (rd_T88 l of).f1)).setCell ⟨gc, 0, none⟩ (.int .i64 (rd_T88 l of).f1)).setCell ⟨gc, 1, none⟩ (.int .i64 (rd_T88 l of).f0)) = w1 at S1 KX ⊢
              have kge0 : w1.cell? ⟨ge, 0, none⟩ = some (.int .i64 1) := (blk_cell S1.out.he 0).trans rfl
              have kge1 : w1.cell? ⟨ge, 1, none⟩ = some (.int .i64 of) := (blk_cell S1.out.he 1).trans rfl
              have kge2 : w1.cell? ⟨ge, 2, none⟩ = some (.int .i64 (-1)) := (blk_cell S1.out.he 2).trans rfl
              have kgs0 : w1.cell? ⟨gs, 0, none⟩ = some (.bool true) := (blk_cell S1.out.hs 0).trans rfl
              have kgs1 : w1.cell? ⟨gs, 1, none⟩ = some (.slice (some ⟨gr, 0, none⟩) ss.length cr) := (blk_cell S1.out.hs 1).trans rfl
              have kgs2 : w1.cell? ⟨gs, 2, none⟩ = some (.slice (some ⟨gb, 0, none⟩) dd.length cd) := (blk_cell S1.out.hs 2).trans rfl
              have kgl0 : w1.cell? ⟨gl, 0, none⟩ = some (.int .i64 n) := (blk_cell S1.out.hl 0).trans rfl
              have kgl1 : w1.cell? ⟨gl, 1, none⟩ = some (.slice (some ad) l.length c) := (blk_cell S1.out.hl 1).trans rfl
              have kc0 : w1.cell? ⟨gc, 0, none⟩ = some (.int .i64 (rd_T88 l of).f1) := (blk_cell KX.out 0).trans rfl
              have kc1 : w1.cell? ⟨gc, 1, none⟩ = some (.int .i64 (rd_T88 l of).f0) := (blk_cell KX.out 1).trans rfl
              go_upto_region 14 with (go_at_call 130; refine (cnt_any _ _ true gs gr ss.length cr _ _ _ _ _ LR1.out S1.out.hs S1.out.H1).mono ?_; rintro e w2 ⟨rfl, hR, hg⟩; have S2 := Aside0.mk (S1.out.sec hR hg); have KY := Aside0.mk (blk_grown KX.out hg (Kd.R_ne S1.out.H1 KX.out (by decide))); clear hR hg)
              clear kge0 kge1 kge2 kgs0 kgs1 kgs2 kgl0 kgl1
              clear kc0 kc1 S1 KX
              have kge0 : w2.cell? ⟨ge, 0, none⟩ = some (.int .i64 1) := (blk_cell S2.out.he 0).trans rfl
              have kge1 : w2.cell? ⟨ge, 1, none⟩ = some (.int .i64 of) := (blk_cell S2.out.he 1).trans rfl
              have kge2 : w2.cell? ⟨ge, 2, none⟩ = some (.int .i64 (-1)) := (blk_cell S2.out.he 2).trans rfl
              have kgs0 : w2.cell? ⟨gs, 0, none⟩ = some (.bool true) := (blk_cell S2.out.hs 0).trans rfl
              have kgs1 : w2.cell? ⟨gs, 1, none⟩ = some (.slice (some ⟨gr, 0, none⟩) ss.length cr) := (blk_cell S2.out.hs 1).trans rfl
              have kgs2 : w2.cell? ⟨gs, 2, none⟩ = some (.slice (some ⟨gb, 0, none⟩) dd.length cd) := (blk_cell S2.out.hs 2).trans rfl
              have kgl0 : w2.cell? ⟨gl, 0, none⟩ = some (.int .i64 n) := (blk_cell S2.out.hl 0).trans rfl
              have kgl1 : w2.cell? ⟨gl, 1, none⟩ = some (.slice (some ad) l.length c) := (blk_cell S2.out.hl 1).trans rfl
              have kc1 : w2.cell? ⟨gc, 1, none⟩ = some (.int .i64 (rd_T88 l of).f0) := (blk_cell KY.out 1).trans rfl
              go_wp2_with (go_at_call 130; refine (cnt_any _ _ true gs gr ss.length cr _ _ _ _ _ LR0.out S2.out.hs S2.out.H1).mono ?_; rintro e w3 ⟨rfl, hR, hg⟩; have S3 := Aside0.mk (S2.out.sec hR hg); clear hR hg)
              go_meet
              case rel => exact ⟨⟨S3.out⟩, ⟨by unfold doCode; rw [if_pos (by decide), HDO.out]; rfl⟩⟩
            · go_upto_region 12 with (first | ((with_reducible refine gate_dst (N := 9) rfl ?_); refine box_event ?hg (N := 9) ?hd (cs := #[.int .i64 0, .int .i64 0]) (t := 88) ?hr ?_; (case hd => rfl); (case hg => rfl); (case hr => first | (go_simp; done) | (go_simp; rfl)); intro gc ec wb kc bc; have KC := Aside0.mk kc; have EC := Aside0.mk ec; have BC := Aside0.mk bc; have zc0 := blk_frozen kc 0; have zc1 := blk_frozen kc 1; have kc0 := (blk_cell kc 0).trans (show _ = some (Value.int .i64 0) from rfl); have kc1 := (blk_cell kc 1).trans (show _ = some (Value.int .i64 0) from rfl); have e0 := pw_cell_below bc ce0; have e1 := pw_cell_below bc ce1; have e2 := pw_cell_below bc ce2; have ss1 := pw_cell_below bc cs1; have ss2 := pw_cell_below bc cs2; clear kc ec bc))
              have KX := Aside0.mk (blk_put (blk_put (blk_put (blk_put KC.out 0 (.int .i64 (rd_T88 l of).f0) rfl) 1 (.int .i64 (rd_T88 l of).f1) rfl) 0 (.int .i64 (rd_T88 l of).f1) rfl) 1 (.int .i64 (rd_T88 l of).f0) rfl)
              have BX := Aside0.mk (below_set (j := 1) (v := (.int .i64 (rd_T88 l of).f0)) (below_set (j := 0) (v := (.int .i64 (rd_T88 l of).f1)) (below_set (j := 1) (v := (.int .i64 (rd_T88 l of).f1)) (below_set (j := 0) (v := (.int .i64 (rd_T88 l of).f0)) BC.out (Nat.le_of_eq EC.out.symm)) (Nat.le_of_eq EC.out.symm)) (Nat.le_of_eq EC.out.symm)) (Nat.le_of_eq EC.out.symm))
              have S1 := Aside0.mk (SA.out.up BX.out)
              clear SA ce0 ce1 ce2 cs0 cs1 cs2 cl0 cl1 x0 xf KC BC BX zc0 zc1 kc0 kc1 e0 e1 e2 ss1 ss2 y0 y1 EC
              generalize ((((wb.setCell ⟨gc, 0, none⟩ (.int .i64 (rd_T88 l of).f0)).setCell ⟨gc, 1, none⟩ (.int .i64 (rd_T88 l of).f1)).setCell ⟨gc, 0, none⟩ (.int .i64 (rd_T88 l of).f1)).setCell ⟨gc, 1, none⟩ (.int .i64 (rd_T88 l of).f0)) = w1 at S1 KX ⊢
              have kge0 : w1.cell? ⟨ge, 0, none⟩ = some (.int .i64 2) := (blk_cell S1.out.he 0).trans rfl
              have kge1 : w1.cell? ⟨ge, 1, none⟩ = some (.int .i64 of) := (blk_cell S1.out.he 1).trans rfl
              have kge2 : w1.cell? ⟨ge, 2, none⟩ = some (.int .i64 (-1)) := (blk_cell S1.out.he 2).trans rfl
              have kgs0 : w1.cell? ⟨gs, 0, none⟩ = some (.bool true) := (blk_cell S1.out.hs 0).trans rfl
              have kgs1 : w1.cell? ⟨gs, 1, none⟩ = some (.slice (some ⟨gr, 0, none⟩) ss.length cr) := (blk_cell S1.out.hs 1).trans rfl
              have kgs2 : w1.cell? ⟨gs, 2, none⟩ = some (.slice (some ⟨gb, 0, none⟩) dd.length cd) := (blk_cell S1.out.hs 2).trans rfl
              have kgl0 : w1.cell? ⟨gl, 0, none⟩ = some (.int .i64 n) := (blk_cell S1.out.hl 0).trans rfl
              have kgl1 : w1.cell? ⟨gl, 1, none⟩ = some (.slice (some ad) l.length c) := (blk_cell S1.out.hl 1).trans rfl
              have kc0 : w1.cell? ⟨gc, 0, none⟩ = some (.int .i64 (rd_T88 l of).f1) := (blk_cell KX.out 0).trans rfl
              have kc1 : w1.cell? ⟨gc, 1, none⟩ = some (.int .i64 (rd_T88 l of).f0) := (blk_cell KX.out 1).trans rfl
              go_wp2_with (go_at_call 130; refine (cnt_any _ _ true gs gr ss.length cr _ _ _ _ _ LR0.out S1.out.hs S1.out.H1).mono ?_; rintro e w3 ⟨rfl, hR, hg⟩; have S3 := Aside0.mk (S1.out.sec hR hg); clear hR hg)
              go_meet
              case rel => exact ⟨⟨S3.out⟩, ⟨by unfold doCode; rw [if_pos (by decide), HDO.out]; rfl⟩⟩
      · have lr := lay_rd hl of ho0 ho1
        have ho2 := ho1
        rw [← hnd] at ho1
        obtain ⟨gb, cb, e, _, _, _⟩ := Kd.R_form SA.out.H2 (show 0 < dd.length by omega)
        cases e
        obtain ⟨x0, xf⟩ := bool_at SA.out.H2 of ho0 ho1
        obtain ⟨ad, e, y0, y1⟩ := at_T88 HR.out of ho0 (by omega)
        subst e
        have lr0 : (rd_T88 l of).f0 < (ss.length : Int) := by omega
        have lr1 : (rd_T88 l of).f1 < (ss.length : Int) := by omega
        have LR0 := Aside0.mk lr0
        have LR1 := Aside0.mk lr1
        clear lr lr0 lr1 hl hns hnd hev hln
        have Y0 := Aside0.mk y0
        have Y1 := Aside0.mk y1
        clear y0 y1
        rcases hop with rfl | rfl
        · go_upto_region 17 with fail
          have S1 := Aside0.mk (SA.out.dead of true)
          clear SA ce0 ce1 ce2 cs0 cs1 cs2 cl0 cl1 x0 xf
          generalize wc.setCell ⟨gb, of.toNat, none⟩ (.bool true) = w1 at S1 ⊢
          have kge0 : w1.cell? ⟨ge, 0, none⟩ = some (.int .i64 3) := (blk_cell S1.out.he 0).trans rfl
          have kge1 : w1.cell? ⟨ge, 1, none⟩ = some (.int .i64 of) := (blk_cell S1.out.he 1).trans rfl
          have kge2 : w1.cell? ⟨ge, 2, none⟩ = some (.int .i64 dir) := (blk_cell S1.out.he 2).trans rfl
          have kgs0 : w1.cell? ⟨gs, 0, none⟩ = some (.bool true) := (blk_cell S1.out.hs 0).trans rfl
          have kgs1 : w1.cell? ⟨gs, 1, none⟩ = some (.slice (some ⟨gr, 0, none⟩) ss.length cr) := (blk_cell S1.out.hs 1).trans rfl
          have kgs2 : w1.cell? ⟨gs, 2, none⟩ = some (.slice (some ⟨gb, 0, none⟩) dd.length cd) := (blk_cell S1.out.hs 2).trans rfl
          have kgl0 : w1.cell? ⟨gl, 0, none⟩ = some (.int .i64 n) := (blk_cell S1.out.hl 0).trans rfl
          have kgl1 : w1.cell? ⟨gl, 1, none⟩ = some (.slice (some ad) l.length c) := (blk_cell S1.out.hl 1).trans rfl
          have y0 := pw_cell_below S1.out.hB Y0.out
          have y1 := pw_cell_below S1.out.hB Y1.out
          go_upto_region 18 with (go_at_call 131; refine (lose_any _ true gs gr ss.length cr _ _ _ _ _ LR0.out S1.out.hs S1.out.H1).mono ?_; rintro e w2 ⟨rfl, hR, hg⟩; have S2 := Aside0.mk (S1.out.sec hR hg); clear hR hg)
          clear kge0 kge1 kge2 kgs0 kgs1 kgs2 kgl0 kgl1
          clear y0 y1 S1
          have kge0 : w2.cell? ⟨ge, 0, none⟩ = some (.int .i64 3) := (blk_cell S2.out.he 0).trans rfl
          have kge1 : w2.cell? ⟨ge, 1, none⟩ = some (.int .i64 of) := (blk_cell S2.out.he 1).trans rfl
          have kge2 : w2.cell? ⟨ge, 2, none⟩ = some (.int .i64 dir) := (blk_cell S2.out.he 2).trans rfl
          have kgs0 : w2.cell? ⟨gs, 0, none⟩ = some (.bool true) := (blk_cell S2.out.hs 0).trans rfl
          have kgs1 : w2.cell? ⟨gs, 1, none⟩ = some (.slice (some ⟨gr, 0, none⟩) ss.length cr) := (blk_cell S2.out.hs 1).trans rfl
          have kgs2 : w2.cell? ⟨gs, 2, none⟩ = some (.slice (some ⟨gb, 0, none⟩) dd.length cd) := (blk_cell S2.out.hs 2).trans rfl
          have kgl0 : w2.cell? ⟨gl, 0, none⟩ = some (.int .i64 n) := (blk_cell S2.out.hl 0).trans rfl
          have kgl1 : w2.cell? ⟨gl, 1, none⟩ = some (.slice (some ad) l.length c) := (blk_cell S2.out.hl 1).trans rfl
          have y0 := pw_cell_below S2.out.hB Y0.out
          have y1 := pw_cell_below S2.out.hB Y1.out
          go_wp2_with (go_at_call 131; refine (lose_any _ true gs gr ss.length cr _ _ _ _ _ LR1.out S2.out.hs S2.out.H1).mono ?_; rintro e w3 ⟨rfl, hR, hg⟩; have S3 := Aside0.mk (S2.out.sec hR hg); clear hR hg)
          go_meet
          case rel => exact ⟨⟨S3.out⟩, ⟨rfl⟩⟩
        · go_wp2_with fail
          go_meet
          case rel => exact ⟨⟨SA.out.dead of false⟩, ⟨rfl⟩⟩
      · rw [← hns] at ho1
        obtain ⟨z0, z1, z2, z3, z4, zf0, zf1, zf2, zf3, zf4⟩ := sec_at SA.out.H1 of ho0 ho1
        have hll : l.length ≤ 1048576 := by omega
        have HLL := Aside0.mk hll
        have HND := Aside0.mk hnd
        have HO0 := Aside0.mk ho0
        have HO1 := Aside0.mk ho1
        clear hl hns hnd hev hln hll z0 z1 z2 z3 z4 zf0 zf1 zf2 zf3 zf4
        rcases Bool.eq_false_or_eq_true (deadAt l dd of) with hdo | hdo
        · have HDO := Aside0.mk hdo
          clear hdo
          have HC2 := Aside0.mk (show doCode l ss dd 5 of = 3 by unfold doCode; rw [if_neg (by decide), if_pos rfl, if_pos HDO.out])
          go_upto_region 23 with (go_at_call 98; refine (dead_at of HDO.out (Kd.C_below HR.out SA.out.hB) hc (Kd.R_reads' SA.out.H1).2.2 (Kd.R_reads' SA.out.H1).2.1 (Kd.R_reads' SA.out.H2).2.2 (Kd.R_reads' SA.out.H2).2.1 HLL.out HND.out).mono ?_; rintro e w1 ⟨rfl, hb⟩; have S1 := Aside0.mk (SA.out.up hb); clear hb)
          clear ce0 ce1 ce2 cs0 cs1 cs2 cl0 cl1 SA
          have kge0 : w1.cell? ⟨ge, 0, none⟩ = some (.int .i64 5) := (blk_cell S1.out.he 0).trans rfl
          have kge1 : w1.cell? ⟨ge, 1, none⟩ = some (.int .i64 of) := (blk_cell S1.out.he 1).trans rfl
          have kge2 : w1.cell? ⟨ge, 2, none⟩ = some (.int .i64 dir) := (blk_cell S1.out.he 2).trans rfl
          have kgs0 : w1.cell? ⟨gs, 0, none⟩ = some (.bool true) := (blk_cell S1.out.hs 0).trans rfl
          have kgs1 : w1.cell? ⟨gs, 1, none⟩ = some (.slice (some ⟨gr, 0, none⟩) ss.length cr) := (blk_cell S1.out.hs 1).trans rfl
          have kgs2 : w1.cell? ⟨gs, 2, none⟩ = some (.slice Ad dd.length cd) := (blk_cell S1.out.hs 2).trans rfl
          have kgl0 : w1.cell? ⟨gl, 0, none⟩ = some (.int .i64 n) := (blk_cell S1.out.hl 0).trans rfl
          have kgl1 : w1.cell? ⟨gl, 1, none⟩ = some (.slice A l.length c) := (blk_cell S1.out.hl 1).trans rfl
          have kd0 : w1.cell? ⟨gd, 0, none⟩ = some (.int .i64 0) := (blk_cell S1.out.hd 0).trans rfl
          have kz0 := blk_frozen S1.out.hd 0
          have kd1 : w1.cell? ⟨gd, 1, none⟩ = some (.bool false) := (blk_cell S1.out.hd 1).trans rfl
          have kz1 := blk_frozen S1.out.hd 1
          have kd2 : w1.cell? ⟨gd, 2, none⟩ = some (.slice none 0 0) := (blk_cell S1.out.hd 2).trans rfl
          have kz2 := blk_frozen S1.out.hd 2
          have kd3 : w1.cell? ⟨gd, 3, none⟩ = some (.slice none 0 0) := (blk_cell S1.out.hd 3).trans rfl
          have kz3 := blk_frozen S1.out.hd 3
          go_wp2_with fail
          have SF := S1.out.fill (y0 := .int .i64 3) (y1 := .bool true) (y2 := (.slice (some ⟨gr, 0, none⟩) ss.length cr)) (y3 := (.slice Ad dd.length cd))
          refine bodyPost_ret (results_cell_row rfl _ _ gd 48 _ (0, 0) _ rfl SF.hd Try.underlying48 rfl (by kernel_rfl)) rfl ⟨_, _, by rw [HC2.out], ?_, ?_, SF.hB⟩
          · unfold doSecs; rw [HC2.out]; exact SF.H1
          · unfold doDead; rw [HC2.out]; exact SF.H2
        · have HDO := Aside0.mk hdo
          clear hdo
          go_upto_region 24 with (go_at_call 98; refine (dead_at of HDO.out (Kd.C_below HR.out SA.out.hB) hc (Kd.R_reads' SA.out.H1).2.2 (Kd.R_reads' SA.out.H1).2.1 (Kd.R_reads' SA.out.H2).2.2 (Kd.R_reads' SA.out.H2).2.1 HLL.out HND.out).mono ?_; rintro e w1 ⟨rfl, hb⟩; have S1 := Aside0.mk (SA.out.up hb); clear hb)
          clear ce0 ce1 ce2 cs0 cs1 cs2 cl0 cl1 SA
          have kge0 : w1.cell? ⟨ge, 0, none⟩ = some (.int .i64 5) := (blk_cell S1.out.he 0).trans rfl
          have kge1 : w1.cell? ⟨ge, 1, none⟩ = some (.int .i64 of) := (blk_cell S1.out.he 1).trans rfl
          have kge2 : w1.cell? ⟨ge, 2, none⟩ = some (.int .i64 dir) := (blk_cell S1.out.he 2).trans rfl
          have kgs0 : w1.cell? ⟨gs, 0, none⟩ = some (.bool true) := (blk_cell S1.out.hs 0).trans rfl
          have kgs1 : w1.cell? ⟨gs, 1, none⟩ = some (.slice (some ⟨gr, 0, none⟩) ss.length cr) := (blk_cell S1.out.hs 1).trans rfl
          have kgs2 : w1.cell? ⟨gs, 2, none⟩ = some (.slice Ad dd.length cd) := (blk_cell S1.out.hs 2).trans rfl
          have kgl0 : w1.cell? ⟨gl, 0, none⟩ = some (.int .i64 n) := (blk_cell S1.out.hl 0).trans rfl
          have kgl1 : w1.cell? ⟨gl, 1, none⟩ = some (.slice A l.length c) := (blk_cell S1.out.hl 1).trans rfl
          have ho0 := HO0.out
          have ho1 := HO1.out
          obtain ⟨z0, z1, z2, z3, z4, zf0, zf1, zf2, zf3, zf4⟩ := sec_at S1.out.H1 of ho0 ho1
          by_cases hla : (rd_T50 ss of).f4 = 1
          · have hla1 : ((rd_T50 ss of).f4 == 1) = true := beq_iff_eq.mpr hla
            have HC2 := Aside0.mk (show doCode l ss dd 5 of = 4 by unfold doCode; rw [if_neg (by decide), if_pos rfl, HDO.out, if_neg (by decide), if_pos hla])
            clear hla
            have kd0 : w1.cell? ⟨gd, 0, none⟩ = some (.int .i64 0) := (blk_cell S1.out.hd 0).trans rfl
            have kz0 := blk_frozen S1.out.hd 0
            have kd1 : w1.cell? ⟨gd, 1, none⟩ = some (.bool false) := (blk_cell S1.out.hd 1).trans rfl
            have kz1 := blk_frozen S1.out.hd 1
            have kd2 : w1.cell? ⟨gd, 2, none⟩ = some (.slice none 0 0) := (blk_cell S1.out.hd 2).trans rfl
            have kz2 := blk_frozen S1.out.hd 2
            have kd3 : w1.cell? ⟨gd, 3, none⟩ = some (.slice none 0 0) := (blk_cell S1.out.hd 3).trans rfl
            have kz3 := blk_frozen S1.out.hd 3
            go_wp2_with fail
            have SF := S1.out.fill (y0 := .int .i64 4) (y1 := .bool true) (y2 := (.slice (some ⟨gr, 0, none⟩) ss.length cr)) (y3 := (.slice Ad dd.length cd))
            refine bodyPost_ret (results_cell_row rfl _ _ gd 48 _ (0, 0) _ rfl SF.hd Try.underlying48 rfl (by kernel_rfl)) rfl ⟨_, _, by rw [HC2.out], ?_, ?_, SF.hB⟩
            · unfold doSecs; rw [HC2.out]; exact SF.H1
            · unfold doDead; rw [HC2.out]; exact SF.H2
          · have hla1 : ((rd_T50 ss of).f4 == 1) = false := beq_eq_false_iff_ne.mpr hla
            have HC2 := Aside0.mk (show doCode l ss dd 5 of = 0 by unfold doCode; rw [if_neg (by decide), if_pos rfl, HDO.out, if_neg (by decide), if_neg hla])
            clear hla
            go_wp2_with fail
            go_meet
            case rel =>
              obtain ⟨hR, hg⟩ := ((((SecSt.start S1.out.H1 HO0.out HO1.out).put0 HO0.out HO1.out (u := 0) rfl).put1 HO0.out HO1.out (u := 0) rfl).put2 HO0.out HO1.out (u := false) rfl |>.put3 HO0.out HO1.out (u := true) rfl).put4 HO0.out HO1.out (u := 0) rfl
              exact ⟨⟨S1.out.sec hR hg⟩, HC2⟩
    case rest =>
      obtain ⟨SM, HC0⟩ := hcut
      have HLM := Aside0.mk (midSecs_length l ss op of dir)
      have HLD := Aside0.mk (midDead_length dd op of)
      have HDS := Aside0.mk (show retold l (midDead dd op of) (midSecs l ss op of dir) = doSecs l ss dd op of dir by unfold doSecs; rw [if_pos HC0.out])
      have HDD := Aside0.mk (show midDead dd op of = doDead l ss dd op of by unfold doDead; rw [if_pos HC0.out])
      clear SA ce0 ce1 ce2 cs0 cs1 cs2 cl0 cl1
      generalize midSecs l ss op of dir = ms at SM HLM HDS
      generalize midDead dd op of = md at SM HLD HDS HDD
      have kge0 : wc.cell? ⟨ge, 0, none⟩ = some (.int .i64 op) := (blk_cell SM.out.he 0).trans rfl
      have kge1 : wc.cell? ⟨ge, 1, none⟩ = some (.int .i64 of) := (blk_cell SM.out.he 1).trans rfl
      have kge2 : wc.cell? ⟨ge, 2, none⟩ = some (.int .i64 dir) := (blk_cell SM.out.he 2).trans rfl
      have kgs0 : wc.cell? ⟨gs, 0, none⟩ = some (.bool true) := (blk_cell SM.out.hs 0).trans rfl
      have kgs1 : wc.cell? ⟨gs, 1, none⟩ = some (.slice (some ⟨gr, 0, none⟩) ss.length cr) := (blk_cell SM.out.hs 1).trans rfl
      have kgs2 : wc.cell? ⟨gs, 2, none⟩ = some (.slice Ad dd.length cd) := (blk_cell SM.out.hs 2).trans rfl
      have kgl0 : wc.cell? ⟨gl, 0, none⟩ = some (.int .i64 n) := (blk_cell SM.out.hl 0).trans rfl
      have kgl1 : wc.cell? ⟨gl, 1, none⟩ = some (.slice A l.length c) := (blk_cell SM.out.hl 1).trans rfl
      go_wp2_with fail
      go_loopg [119] ss.length (fun kq v w' => ∃ j : Nat, v = .int .i64 j ∧ Aside0 (j + kq = ss.length) ∧ Aside0 (DoSt w w' gl gs ge gd [.int .i64 n, .slice A l.length c] [.bool true, .slice (some ⟨gr, 0, none⟩) ss.length cr, .slice Ad dd.length cd] [.int .i64 op, .int .i64 of, .int .i64 dir] [.int .i64 0, .bool false, .slice none 0 0, .slice none 0 0] (.slice (some ⟨gr, 0, none⟩) ss.length cr) (.slice Ad dd.length cd) (retoldTo l md ms j) md))
      case atStart => exact ⟨0, rfl, ⟨by omega⟩, ⟨by rw [retoldTo_zero]; exact SM.out⟩⟩
      case round =>
        obtain ⟨j, rfl, HJ, SL⟩ := hrel
        clear kge0 kge1 kge2 kgs0 kgs1 kgs2 kgl0 kgl1
        clear SM
        by_cases hlt : j < ss.length
        · cases gk with
          | zero => exact absurd HJ.out (by omega)
          | succ gk =>
            have hlt' : decide ((j : Int) < (ss.length : Int)) = true := decide_eq_true (by omega)
            have q0 : (0 : Int) ≤ (j : Int) := by omega
            have q1 : (j : Int) < (ss.length : Int) := by omega
            have q2 : ss.length ≤ 60 := by have := lay_n HN.out.1; have := HN.out.2.1; omega
            go_upto_block 2 with fail
            go_cut [11] from 121 to 130 (fun v11 wx => Aside0 (DoSt w wx gl gs ge gd [.int .i64 n, .slice A l.length c] [.bool true, .slice (some ⟨gr, 0, none⟩) ss.length cr, .slice Ad dd.length cd] [.int .i64 op, .int .i64 of, .int .i64 dir] [.int .i64 0, .bool false, .slice none 0 0, .slice none 0 0] (.slice (some ⟨gr, 0, none⟩) ss.length cr) (.slice Ad dd.length cd) (retoldTo l md ms (j + 1)) md))
            case first =>
              have HLL := Aside0.mk (show l.length ≤ 1048576 by have := lay_n HN.out.1; omega)
              have HML := Aside0.mk (show md.length = l.length by rw [HLD.out]; exact HN.out.2.2.1)
              have n1 : gr ≠ gs := fun e => Kd.R_ne SL.out.H1 SL.out.hs (by decide) (by rw [e]; rfl)
              have n2 : gr ≠ gl := fun e => Kd.R_ne SL.out.H1 SL.out.hl (by decide) (by rw [e]; rfl)
              have kgs0 : wr.cell? ⟨gs, 0, none⟩ = some (.bool true) := (blk_cell SL.out.hs 0).trans rfl
              have kgs1 : wr.cell? ⟨gs, 1, none⟩ = some (.slice (some ⟨gr, 0, none⟩) ss.length cr) := (blk_cell SL.out.hs 1).trans rfl
              have kgs2 : wr.cell? ⟨gs, 2, none⟩ = some (.slice Ad dd.length cd) := (blk_cell SL.out.hs 2).trans rfl
              have kgl0 : wr.cell? ⟨gl, 0, none⟩ = some (.int .i64 n) := (blk_cell SL.out.hl 0).trans rfl
              have kgl1 : wr.cell? ⟨gl, 1, none⟩ = some (.slice A l.length c) := (blk_cell SL.out.hl 1).trans rfl
              have SD := Aside0.mk (SL.out.up (below_drew1 (Below.refl _ _)))
              have hln : ss.length = (retoldTo l md ms j).length := by rw [retoldTo_length, HLM.out]
              have HLN := Aside0.mk hln
              have HLM2 := Aside0.mk (show dd.length = md.length from HLD.out.symm)
              clear hln
              go_upto_region 31 with fail
              go_region_held3 (fun w' => w'.cell? ⟨gl, 0, none⟩ = some (.int .i64 n) ∧ w'.cell? ⟨gl, 1, none⟩ = some (.slice A l.length c) ∧ w'.cell? ⟨gs, 0, none⟩ = some (.bool true) ∧ w'.cell? ⟨gs, 1, none⟩ = some (.slice (some ⟨gr, 0, none⟩) ss.length cr) ∧ w'.cell? ⟨gs, 2, none⟩ = some (.slice Ad dd.length cd))
                (first | go_keep | (go_split_ands; (repeat' apply And.intro) <;> (refine pw_cell_below hb ?_; assumption)) | (go_split_ands; (repeat' apply And.intro) <;> (rw [World.cell?_setCell_far _ _ _ _ (by assumption)]; assumption)))
                (first | (go_at_call 97; refine (told_of (j : Int) (Kd.C_below HR.out SD.out.hB) hc SD.out.H1 SD.out.H2 HLN.out HLM2.out HLL.out HML.out q0 q1).mono ?_; rintro e w' ⟨rfl, hb⟩; have S2 := Aside0.mk (SD.out.up hb); obtain ⟨z0, z1, z2, z3, z4, zf0, zf1, zf2, zf3, zf4⟩ := sec_at S2.out.H1 (j : Int) q0 q1; rw [Int.toNat_natCast] at z0 zf0; clear z1 z2 z3 z4 zf1 zf2 zf3 zf4))
              all_goals (go_wp2_with fail; go_meet)
              obtain ⟨hR, hg⟩ := (SecSt.start S2.out.H1 q0 q1).put0 q0 q1 (u := toldC l md (j : Int) (rd_T50 (retoldTo l md ms j) (j : Int))) (show j * 5 = (j : Int).toNat * 5 + 0 by rw [Int.toNat_natCast, Nat.add_zero])
              rw [retold_step l md ms j (by rw [HLM.out]; exact hlt)] at hR
              exact ⟨S2.out.sec hR hg⟩
            case rest =>
              go_wp2_with fail
              go_roundg gk
              case measure => omega
              case rel => exact ⟨j + 1, by go_num, ⟨by have := HJ.out; omega⟩, hcut⟩
        · have hlt' : decide ((j : Int) < (ss.length : Int)) = false := decide_eq_false (by omega)
          have hj : j = ss.length := by have := HJ.out; omega
          have hre : retoldTo l md ms j = retold l md ms := by rw [retold, HLM.out, hj]
          have SF0 := Aside0.mk (show DoSt w wr gl gs ge gd [.int .i64 n, .slice A l.length c] [.bool true, .slice (some ⟨gr, 0, none⟩) ss.length cr, .slice Ad dd.length cd] [.int .i64 op, .int .i64 of, .int .i64 dir] [.int .i64 0, .bool false, .slice none 0 0, .slice none 0 0] (.slice (some ⟨gr, 0, none⟩) ss.length cr) (.slice Ad dd.length cd) (doSecs l ss dd op of dir) (doDead l ss dd op of) by rw [← HDS.out, ← HDD.out, ← hre]; exact SL.out)
          clear hj hre SL
          have kgs0 : wr.cell? ⟨gs, 0, none⟩ = some (.bool true) := (blk_cell SF0.out.hs 0).trans rfl
          have kgs1 : wr.cell? ⟨gs, 1, none⟩ = some (.slice (some ⟨gr, 0, none⟩) ss.length cr) := (blk_cell SF0.out.hs 1).trans rfl
          have kgs2 : wr.cell? ⟨gs, 2, none⟩ = some (.slice Ad dd.length cd) := (blk_cell SF0.out.hs 2).trans rfl
          have kd0 : wr.cell? ⟨gd, 0, none⟩ = some (.int .i64 0) := (blk_cell SF0.out.hd 0).trans rfl
          have kz0 := blk_frozen SF0.out.hd 0
          have kd1 : wr.cell? ⟨gd, 1, none⟩ = some (.bool false) := (blk_cell SF0.out.hd 1).trans rfl
          have kz1 := blk_frozen SF0.out.hd 1
          have kd2 : wr.cell? ⟨gd, 2, none⟩ = some (.slice none 0 0) := (blk_cell SF0.out.hd 2).trans rfl
          have kz2 := blk_frozen SF0.out.hd 2
          have kd3 : wr.cell? ⟨gd, 3, none⟩ = some (.slice none 0 0) := (blk_cell SF0.out.hd 3).trans rfl
          have kz3 := blk_frozen SF0.out.hd 3
          go_wp2_with fail
          have SF := SF0.out.fill (y0 := .int .i64 0) (y1 := .bool true) (y2 := (.slice (some ⟨gr, 0, none⟩) ss.length cr)) (y3 := (.slice Ad dd.length cd))
          exact bodyPost_ret (results_cell_row rfl _ _ gd 48 _ (0, 0) _ rfl SF.hd Try.underlying48 rfl (by kernel_rfl)) rfl ⟨_, _, by rw [HC0.out], SF.H1, SF.H2, SF.hB⟩
end Go.Proofs.Ytpdnabhpkdchjaa.P
namespace Go.Proofs.Ytpdnabhpkdchjaa.P
open Go.RowKit Go.Proofs.YtpdnabhpkdchjaaW.PrintWords Go.Proofs.YtpdnabhpkdchjaaW.PrintLast Go.Proofs.YtpdnabhpkdchjaaW.PrintMore
set_option linter.unusedVariables false
structure RnSt (w0 w : World) (gl gs : Nat) (lv sv : List Value) (u1 u2 : Value) (s : S46) (v : Value) (out : List S48) : Prop where
  hl : w.heap[gl]? = some (.cells lv.toArray 30 (0, 0))
  hs : w.heap[gs]? = some (.cells sv.toArray 46 (0, 0))
  V1 : Kd.V k50 50 w w0.heap.size (fun k => some k = u1.ownBlock) u1 s.f1
  V2 : Kd.V Kd.bool 4 w w0.heap.size (fun k => some k = u2.ownBlock) u2 s.f2
  HS : Kd.S k48 48 w w0.heap.size (fun _ => True) v out
  hB : Below w0.heap.size w0 w
  gle : w0.heap.size ≤ gl
  gse : w0.heap.size ≤ gs
structure MdSt (w0 wr w : World) (gl gs gd : Nat) (lv sv dv : List Value) (v2 v3 : Value) (ss : List S50) (dd : List Bool) (v : Value) (out : List S48) : Prop where
  hl : w.heap[gl]? = some (.cells lv.toArray 30 (0, 0))
  hs : w.heap[gs]? = some (.cells sv.toArray 46 (0, 0))
  hd : w.heap[gd]? = some (.cells dv.toArray 48 (0, 0))
  R1 : Kd.R k50 50 w wr.heap.size (fun _ => True) v2 ss
  R2 : Kd.R Kd.bool 4 w wr.heap.size (fun _ => True) v3 dd
  HS : Kd.S k48 48 w w0.heap.size (fun k => k < wr.heap.size) v out
  hB : Below w0.heap.size w0 w
  gle : w0.heap.size ≤ gl
  gse : w0.heap.size ≤ gs
  gde : wr.heap.size ≤ gd
  hw : w0.heap.size ≤ wr.heap.size
section
variable {w0 wr w w' w1 : World} {gl gs gd : Nat} {lv sv dv : List Value} {u1 u2 v v1 v2 v3 : Value} {s : S46} {ss : List S50} {dd : List Bool} {out : List S48}
theorem RnSt.up (h : RnSt w0 w gl gs lv sv u1 u2 s v out) (hb : Below w.heap.size w w') : RnSt w0 w' gl gs lv sv u1 u2 s v out where
  hl := blk_below h.hl hb
  hs := blk_below h.hs hb
  V1 := Kd.V_below h.V1 hb
  V2 := Kd.V_below h.V2 hb
  HS := Kd.S_below h.HS hb
  hB := below_step h.hB hb
  gle := h.gle
  gse := h.gse
theorem RnSt.mid (h : RnSt w0 wr gl gs lv sv u1 u2 s v out) (hb : Below wr.heap.size wr w) (hd : w.heap[gd]? = some (.cells dv.toArray 48 (0, 0))) (gde : wr.heap.size ≤ gd) (R1 : Kd.R k50 50 w wr.heap.size (fun _ => True) v2 ss) (R2 : Kd.R Kd.bool 4 w wr.heap.size (fun _ => True) v3 dd) :
    MdSt w0 wr w gl gs gd lv sv dv v2 v3 ss dd v out where
  hl := blk_below h.hl hb
  hs := blk_below h.hs hb
  hd := hd
  R1 := R1
  R2 := R2
  HS := Kd.S_below (Kd.S_mono (Kd.S_bound h.HS) (fun _ hk => hk.2.2.1)) hb
  hB := below_step h.hB hb
  gle := h.gle
  gse := h.gse
  gde := gde
  hw := h.hB.size
def okp (v2 v3 : Value) (k : Nat) : Prop := some k = v2.ownBlock ∨ some k = v3.ownBlock
theorem own_from {α : Type} {d : Kd α} {e : Nat} {base : Nat} {ok : Nat → Prop} {xs : List α} (h : d.R e w base ok v xs) (k : Nat) (hk : v.ownBlock = some k) : base ≤ k := by
  rcases Kd.R_base2 h with h2 | ⟨j, h2, h3⟩
  · rw [h2] at hk; cases hk
  · rw [h2] at hk; cases hk; exact h3
theorem MdSt.okp_new (h : MdSt w0 wr w gl gs gd lv sv dv v2 v3 ss dd v out) {k : Nat} (hk : okp v2 v3 k) : wr.heap.size ≤ k := by
  rcases hk with hk | hk
  · exact own_from h.R1 k hk.symm
  · exact own_from h.R2 k hk.symm
theorem MdSt.okp_ne (h : MdSt w0 wr w gl gs gd lv sv dv v2 v3 ss dd v out) {k : Nat} (hk : okp v2 v3 k) : some k ≠ v.ownBlock := by
  intro e
  have h1 := h.okp_new hk
  have h2 : k < wr.heap.size := (Kd.S_R h.HS).1 k e.symm
  omega
theorem MdSt.rest (h : MdSt w0 wr w gl gs gd lv sv dv v2 v3 ss dd v out) : Kd.S k48 48 w w0.heap.size (fun k => True ∧ ¬ okp v2 v3 k) v out :=
  Kd.S_mono h.HS (fun k hk => ⟨trivial, fun hp => by have := h.okp_new hp; omega⟩)
theorem MdSt.elem (h : MdSt w0 wr w gl gs gd lv sv dv v2 v3 ss dd v out) (code : Int) (b : Bool) : k48.M w w0.heap.size (okp v2 v3) ⟨code, ⟨b, ss, dd⟩⟩ [.int .i64 code, .bool b, v2, v3] :=
  k48_mkM w _ _ ⟨code, ⟨b, ss, dd⟩⟩ (Kd.R_mono (Kd.R_tight rfl (Kd.R_lower h.R1 h.hw)) (fun _ hk => .inl hk)) (Kd.R_mono (Kd.R_tight rfl (Kd.R_lower h.R2 h.hw)) (fun _ hk => .inr hk))
theorem MdSt.fin {x0 x1 x2 : Value} (h : MdSt w0 wr w gl gs gd lv [x0, x1, x2] dv v2 v3 ss dd v out) {code : Int} {b : Bool} (HS1 : Kd.S k48 48 w1 w0.heap.size (fun _ => True) v1 (out ++ [⟨code, ⟨b, ss, dd⟩⟩])) (hB1 : Below w0.heap.size w0 w1) (hg : w.grownBy w1 v.ownBlock) :
    RnSt w0 (((w1.setCell ⟨gs, 0, none⟩ (.bool b)).setCell ⟨gs, 1, none⟩ v2).setCell ⟨gs, 2, none⟩ v3) gl gs lv [.bool b, v2, v3] v2 v3 ⟨b, ss, dd⟩ v1 (out ++ [⟨code, ⟨b, ss, dd⟩⟩]) := by
  have ngs : ∀ k, some k = v2.ownBlock → k ≠ gs := fun k hk e => Kd.R_ne h.R1 h.hs (by decide) (e ▸ hk)
  have ngs3 : ∀ k, some k = v3.ownBlock → k ≠ gs := fun k hk e => Kd.R_ne h.R2 h.hs (by decide) (e ▸ hk)
  have hl1 := blk_grown h.hl hg (Kd.S_ne h.HS h.hl (by decide))
  have hs1 := blk_grown h.hs hg (Kd.S_ne h.HS h.hs (by decide))
  have ne := blk_ne hl1 hs1 (by decide)
  have W1 : Kd.V k50 50 w1 w0.heap.size (fun k => some k = v2.ownBlock) v2 ss := Kd.V_grown (Kd.R_V (Kd.R_tight rfl h.R1)) hg (fun k hk => h.okp_ne (.inl hk))
  have W2 : Kd.V Kd.bool 4 w1 w0.heap.size (fun k => some k = v3.ownBlock) v3 dd := Kd.V_grown (Kd.R_V (Kd.R_tight rfl h.R2)) hg (fun k hk => h.okp_ne (.inr hk))
  have hq : ∀ q, q ∈ 48 :: k48.E → q ≠ 46 := by decide
  have s0 := blk_put hs1 0 (.bool b) rfl
  have s1 := blk_put s0 1 v2 rfl
  have s2 := blk_put s1 2 v3 rfl
  exact {
    hl := blk_far (blk_far (blk_far hl1 ne _) ne _) ne _
    hs := s2
    V1 := Kd.V_far (Kd.V_far (Kd.V_far W1 (p := ⟨gs, 0, none⟩) ngs _) (p := ⟨gs, 1, none⟩) ngs _) (p := ⟨gs, 2, none⟩) ngs _
    V2 := Kd.V_far (Kd.V_far (Kd.V_far W2 (p := ⟨gs, 0, none⟩) ngs3 _) (p := ⟨gs, 1, none⟩) ngs3 _) (p := ⟨gs, 2, none⟩) ngs3 _
    HS := Kd.S_set (Kd.S_set (Kd.S_set HS1 hs1 hq 0 _) s0 hq 1 _) s1 hq 2 _
    hB := below_set (below_set (below_set hB1 h.gse) h.gse) h.gse
    gle := h.gle
    gse := h.gse }
theorem MdSt.at_ (h : MdSt w0 wr w gl gs gd lv sv dv v2 v3 ss dd v out) (hg : w.grownBy w1 v.ownBlock) : w1.heap[gd]? = some (.cells dv.toArray 48 (0, 0)) ∧ w1.heap[gs]? = some (.cells sv.toArray 46 (0, 0)) :=
  ⟨blk_grown h.hd hg (fun e => by have := (Kd.S_R h.HS).1 gd e.symm; have := h.gde; omega), blk_grown h.hs hg (Kd.S_ne h.HS h.hs (by decide))⟩
theorem MdSt.up (h : MdSt w0 wr w gl gs gd lv sv dv v2 v3 ss dd v out) (hb : Below w.heap.size w w') : MdSt w0 wr w' gl gs gd lv sv dv v2 v3 ss dd v out where
  hl := blk_below h.hl hb
  hs := blk_below h.hs hb
  hd := blk_below h.hd hb
  R1 := R_up h.R1 hb
  R2 := R_up h.R2 hb
  HS := Kd.S_below h.HS hb
  hB := below_step h.hB hb
  gle := h.gle
  gse := h.gse
  gde := h.gde
  hw := h.hw
theorem RnSt.midA {code : Int} {b : Bool} (h : RnSt w0 wr gl gs lv sv u1 u2 s v out) (hb : Below wr.heap.size wr w) (R1 : Kd.R k50 50 w wr.heap.size (fun _ => True) v2 ss) (R2 : Kd.R Kd.bool 4 w wr.heap.size (fun _ => True) v3 dd) :
    MdSt w0 wr (w.alloc (.cells #[.int .i64 code, .bool b, v2, v3] 48)) gl gs w.heap.size lv sv [.int .i64 code, .bool b, v2, v3] v2 v3 ss dd v out ∧ Below wr.heap.size wr (w.alloc (.cells #[.int .i64 code, .bool b, v2, v3] 48)) :=
  ⟨h.mid (below_alloc hb _) (heap_alloc_new w _) hb.size (R_up R1 (below_alloc (Below.refl _ _) _)) (R_up R2 (below_alloc (Below.refl _ _) _)), below_alloc hb _⟩
theorem RnSt.midB {code : Int} {b : Bool} {x0 x1 x2 x3 : Value} (h : RnSt w0 wr gl gs lv sv u1 u2 s v out) (hb : Below wr.heap.size wr w) (hd : w.heap[gd]? = some (.cells #[x0, x1, x2, x3] 48 (0, 0))) (gde : wr.heap.size ≤ gd) (R1 : Kd.R k50 50 w wr.heap.size (fun _ => True) v2 ss) (R2 : Kd.R Kd.bool 4 w wr.heap.size (fun _ => True) v3 dd) :
    MdSt w0 wr ((((w.setCell ⟨gd, 0, none⟩ (.int .i64 code)).setCell ⟨gd, 1, none⟩ (.bool b)).setCell ⟨gd, 2, none⟩ v2).setCell ⟨gd, 3, none⟩ v3) gl gs gd lv sv [.int .i64 code, .bool b, v2, v3] v2 v3 ss dd v out ∧
    Below wr.heap.size wr ((((w.setCell ⟨gd, 0, none⟩ (.int .i64 code)).setCell ⟨gd, 1, none⟩ (.bool b)).setCell ⟨gd, 2, none⟩ v2).setCell ⟨gd, 3, none⟩ v3) := by
  have B := below_set (j := 3) (v := v3) (below_set (j := 2) (v := v2) (below_set (j := 1) (v := .bool b) (below_set (j := 0) (v := .int .i64 code) hb gde) gde) gde) gde
  have n1 := Kd.R_ne R1 hd (by decide)
  have n2 := Kd.R_ne R2 hd (by decide)
  exact ⟨h.mid B (blk_put (blk_put (blk_put (blk_put hd 0 _ rfl) 1 _ rfl) 2 _ rfl) 3 _ rfl) gde (R_off rfl (R_off rfl (R_off rfl (R_off rfl R1 n1 _) n1 _) n1 _) n1 _) (R_off rfl (R_off rfl (R_off rfl (R_off rfl R2 n2 _) n2 _) n2 _) n2 _), B⟩
end
theorem alloc_blk {w w' : World} {o : Obj} (hb : Below (w.alloc o).heap.size (w.alloc o) w') : w'.heap[w.heap.size]? = some o := blk_below (heap_alloc_new w o) hb
theorem alloc_blk_drew {w w' : World} {o : Obj} (hb : Below (w.alloc o).drew.heap.size (w.alloc o).drew w') : w'.heap[w.heap.size]? = some o := blk_below (blk_drew (heap_alloc_new w o)) hb
theorem begin_is {n : Int} {A : Option Addr} {c : Nat} {l : List S88} {w : World} (hr : Kd.C k88 w A l.length l) (hc : l.length ≤ c) (hl : layoutOk n l = 0) :
    Calls Try.prog 44 #[.agg #[.int .i64 n, .slice A l.length c]] w fun e w' => ∃ v1_ v2_ : Value, e = .returned (.agg #[.bool true, v1_, v2_]) ∧ Kd.R k50 50 w' w.heap.size (fun _ => True) v1_ (st0 n l).f1 ∧ Kd.R Kd.bool 4 w' w.heap.size (fun _ => True) v2_ (st0 n l).f2 ∧ Below w.heap.size w w' := by
  have h := impl_Begin.calls n A c l (begin3 n l).1 (begin3 n l).2.1 (begin3 n l).2.2 w hr hc (implBegin_eq n l)
  rw [show begin3 n l = (true, (st0 n l).f1, (st0 n l).f2) by rw [begin3, if_pos hl]; rfl] at h
  exact h
end Go.Proofs.Ytpdnabhpkdchjaa.P
