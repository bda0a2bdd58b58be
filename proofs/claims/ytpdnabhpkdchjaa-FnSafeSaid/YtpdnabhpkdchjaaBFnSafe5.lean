/- The statement FnSafe holds of the given program, for every argument; there are no conditions. (Part 5 of 6.) -/
import Derived.Test.YtpdnabhpkdchjaaBFnSafe4
import Derived.Deep.DrawnRows
import Derived.Deep.RegionWith
namespace Go.Proofs.Ytpdnabhpkdchjaa.P
open Go.RowKit Go.Proofs.YtpdnabhpkdchjaaW.PrintWords Go.Proofs.YtpdnabhpkdchjaaW.PrintLast Go.Proofs.YtpdnabhpkdchjaaW.PrintMore
set_option linter.unusedVariables false
def runStep (n : Int) (l : List S88) (s : S46) (e : S56) : S48 :=
  if eventOk n l e.f0 e.f1 e.f2 = true then ⟨doCode l s.f1 s.f2 e.f0 e.f1, ⟨true, doSecs l s.f1 s.f2 e.f0 e.f1 e.f2, doDead l s.f1 s.f2 e.f0 e.f1⟩⟩ else ⟨1, ⟨true, s.f1, s.f2⟩⟩
def st0 (n : Int) (l : List S88) : S46 := ⟨true, List.replicate n.toNat z50, List.replicate l.length false⟩
def stAt (n : Int) (l : List S88) (es : List S56) (k : Nat) : S46 := (es.take k).foldl (fun s e => (runStep n l s e).f1) (st0 n l)
def runTo (n : Int) (l : List S88) (es : List S56) (k : Nat) : List S48 := (List.range k).map fun j => runStep n l (stAt n l es j) (rd_T56 es (j : Int))
def run (n : Int) (l : List S88) (es : List S56) : List S48 := if layoutOk n l = 0 ∧ es.length ≤ 2000 then runTo n l es es.length else []
theorem runTo_length (n : Int) (l : List S88) (es : List S56) (k : Nat) : (runTo n l es k).length = k := by simp [runTo]
theorem runTo_succ (n : Int) (l : List S88) (es : List S56) (k : Nat) : runTo n l es (k + 1) = runTo n l es k ++ [runStep n l (stAt n l es k) (rd_T56 es (k : Int))] := by
  simp [runTo, List.range_succ]
theorem stAt_succ (n : Int) (l : List S88) (es : List S56) (k : Nat) (h : k < es.length) : stAt n l es (k + 1) = (runStep n l (stAt n l es k) (rd_T56 es (k : Int))).f1 := by
  rw [stAt, List.take_succ_eq_append_getElem h, List.foldl_append, rd56 es k h]
  rfl
theorem stAt_zero (n : Int) (l : List S88) (es : List S56) : stAt n l es 0 = st0 n l := by simp [stAt]
theorem runStep_len (n : Int) (l : List S88) (s : S46) (e : S56) : (runStep n l s e).f1.f1.length = s.f1.length ∧ (runStep n l s e).f1.f2.length = s.f2.length ∧ (runStep n l s e).f1.f0 = true := by
  unfold runStep
  split
  · exact ⟨doSecs_length _ _ _ _ _ _, doDead_length _ _ _ _ _, rfl⟩
  · exact ⟨rfl, rfl, rfl⟩
theorem stAt_len (n : Int) (l : List S88) (es : List S56) (k : Nat) : (stAt n l es k).f1.length = n.toNat ∧ (stAt n l es k).f2.length = l.length ∧ (stAt n l es k).f0 = true := by
  unfold stAt
  have h : ∀ (es : List S56) (s : S46), s.f1.length = n.toNat ∧ s.f2.length = l.length ∧ s.f0 = true → (es.foldl (fun s e => (runStep n l s e).f1) s).f1.length = n.toNat ∧ (es.foldl (fun s e => (runStep n l s e).f1) s).f2.length = l.length ∧ (es.foldl (fun s e => (runStep n l s e).f1) s).f0 = true := by
    intro es
    induction es with
    | nil => intro s h; exact h
    | cons e es ih =>
      intro s h
      have := runStep_len n l s e
      exact ih _ ⟨by rw [this.1]; exact h.1, by rw [this.2.1]; exact h.2.1, this.2.2⟩
  exact h _ _ ⟨by simp [st0], by simp [st0], rfl⟩
def secFine (l : List S88) (dd : List Bool) (s : Int) (x : S50) : Bool := secRange x && secRest (deadAt l dd s) x
theorem fine_iff (l : List S88) (dd : List Bool) (s : Int) (x : S50) : secFine l dd s x = true ↔ (-1000000 ≤ x.f1 ∧ x.f1 ≤ 1000000 ∧ -1 ≤ x.f4 ∧ x.f4 ≤ 1) ∧ ((x.f1 < 0 ∨ deadAt l dd s = true) → x.f2 = true) ∧ (x.f3 = true ∧ x.f1 = 0 ∧ x.f4 = -1 → x.f2 = true) := by
  simp only [secFine, secRange, secRest, Bool.and_eq_true, decide_eq_true_eq, Bool.not_eq_true', Bool.and_eq_false_iff, Bool.or_eq_false_iff, Bool.not_eq_false', decide_eq_false_iff_not]
  cases x.f2 <;> cases x.f3 <;> cases deadAt l dd s <;> simp <;> omega
theorem ok_iff (l : List S88) (dd : List Bool) (s : Int) (x : S50) : secOk l dd s x = true ↔ x.f0 = toldC l dd s x ∧ secFine l dd s x = true := by
  simp only [secOk, secFine, Bool.and_eq_true, decide_eq_true_eq]
  exact ⟨fun h => ⟨h.1.2, h.1.1, h.2⟩, fun h => ⟨⟨h.2.1, h.1⟩, h.2.2⟩⟩
theorem tell_ok {l : List S88} {dd : List Bool} {i : Nat} {x : S50} (h : secFine l dd (i : Int) x = true) : secOk l dd (i : Int) (tellS l dd i x) = true := by
  rw [ok_iff]
  exact ⟨rfl, h⟩
theorem retold_get (l : List S88) (dd : List Bool) (ss : List S50) (i : Nat) (h : i < ss.length) : rd_T50 (retold l dd ss) (i : Int) = tellS l dd i (rd_T50 ss (i : Int)) := by
  simp [rd_T50, retold, retoldTo, h]
theorem retold_fine {l : List S88} {dd : List Bool} {ss : List S50} (h : ∀ j, j < ss.length → secFine l dd (j : Int) (rd_T50 ss (j : Int)) = true) : ∀ j, j < (retold l dd ss).length → secOk l dd (j : Int) (rd_T50 (retold l dd ss) (j : Int)) = true := by
  intro j hj
  rw [retold_length] at hj
  rw [retold_get l dd ss j hj]
  exact tell_ok (h j hj)
theorem count_fine {l : List S88} {dd : List Bool} {s : Int} {x : S50} {b : Int} (hb : b = 1 ∨ b = -1) (h : secFine l dd s x = true) : secFine l dd s (countS x b) = true := by
  rw [fine_iff] at h ⊢
  obtain ⟨⟨h1, h2, h3, h4⟩, h5, h6⟩ := h
  have hc : -1000000 ≤ cntN x b ∧ cntN x b ≤ 1000000 := by
    unfold cntN
    split
    · rename_i h; exact h
    · exact ⟨h1, h2⟩
  simp only [countS]
  refine ⟨⟨hc.1, hc.2, by omega, by omega⟩, fun h => ?_, fun h => ?_⟩
  · rcases h with h | h
    · rw [decide_eq_true h, Bool.or_true]
    · rw [h5 (.inr h), Bool.true_or]
  · obtain ⟨k1, k2, k3⟩ := h
    rw [k2, k3] at k1
    simp at k1
theorem addS_get (ss : List S50) (s b : Int) (j : Nat) (hj : j < ss.length) : rd_T50 (addS ss s b) (j : Int) = if s = (j : Int) then countS (rd_T50 ss (j : Int)) b else rd_T50 ss (j : Int) := by
  unfold addS
  by_cases h : s < 0
  · rw [if_pos h, if_neg (by omega)]
  · rw [if_neg h]
    by_cases e : s = (j : Int)
    · subst e
      simp [rd_T50, hj]
    · have : s.toNat ≠ j := by omega
      rw [if_neg e]
      simp [rd_T50, List.getElem?_set_ne this]
theorem loseAt_get (ss : List S50) (s : Int) (j : Nat) (hj : j < ss.length) : rd_T50 (loseAt ss s) (j : Int) = if s = (j : Int) then loseS (rd_T50 ss (j : Int)) else rd_T50 ss (j : Int) := by
  unfold loseAt
  by_cases h : s < 0
  · rw [if_pos h, if_neg (by omega)]
  · rw [if_neg h]
    by_cases e : s = (j : Int)
    · subst e
      simp [rd_T50, hj]
    · have : s.toNat ≠ j := by omega
      rw [if_neg e]
      simp [rd_T50, List.getElem?_set_ne this]
theorem add_fine {l : List S88} {dd : List Bool} {ss : List S50} {s b : Int} (hb : b = 1 ∨ b = -1) (h : ∀ j, j < ss.length → secFine l dd (j : Int) (rd_T50 ss (j : Int)) = true) : ∀ j, j < (addS ss s b).length → secFine l dd (j : Int) (rd_T50 (addS ss s b) (j : Int)) = true := by
  intro j hj
  rw [addS_length] at hj
  rw [addS_get ss s b j hj]
  split
  · exact count_fine hb (h j hj)
  · exact h j hj
theorem deadFrom_mono {l : List S88} {dd dd' : List Bool} {s : Int} (h : ∀ i : Nat, rdOf false dd' (i : Int) = true → hits s (rd_T88 l (i : Int)) = true → rdOf false dd (i : Int) = true) : ∀ d i, deadFrom l dd' s d i = true → deadFrom l dd s d i = true := by
  intro d
  induction d with
  | zero => intro i hd; exact hd
  | succ d ih =>
    intro i hd
    simp only [deadFrom, Bool.or_eq_true, Bool.and_eq_true] at hd ⊢
    rcases hd with ⟨h1, h2⟩ | h1
    · exact .inl ⟨h i h1 h2, h2⟩
    · exact .inr (ih _ h1)
theorem rdOf_set (dd : List Bool) (k i : Nat) (b : Bool) : rdOf false (dd.set k b) (i : Int) = if k = i ∧ i < dd.length then b else rdOf false dd (i : Int) := by
  unfold rdOf
  simp only [Int.toNat_natCast, List.getD_eq_getElem?_getD, List.getElem?_set]
  by_cases e : k = i
  · subst e
    by_cases h : k < dd.length
    · simp [h]
    · simp [h]
  · simp [e]
theorem dead_less {l : List S88} {dd : List Bool} {s : Int} {k : Nat} (h : deadAt l (dd.set k false) s = true) : deadAt l dd s = true := by
  refine deadFrom_mono (fun i h1 _ => ?_) _ _ h
  rw [rdOf_set] at h1
  split at h1
  · cases h1
  · exact h1
theorem dead_more {l : List S88} {dd : List Bool} {s : Int} {k : Nat} (h : deadAt l (dd.set k true) s = true) (hn : hits s (rd_T88 l (k : Int)) = false) : deadAt l dd s = true := by
  refine deadFrom_mono (fun i h1 h2 => ?_) _ _ h
  rw [rdOf_set] at h1
  split at h1
  · rename_i e
    rw [← e.1, hn] at h2
    cases h2
  · exact h1
theorem lose_fine {l : List S88} {dd dd' : List Bool} {s : Int} {x : S50} (h : secFine l dd s x = true) : secFine l dd' s (loseS x) = true := by
  rw [fine_iff] at h ⊢
  exact ⟨h.1, fun _ => rfl, fun _ => rfl⟩
theorem fine_dead {l : List S88} {dd dd' : List Bool} {s : Int} {x : S50} (hd : deadAt l dd' s = true → deadAt l dd s = true) (h : secFine l dd s x = true) : secFine l dd' s x = true := by
  rw [fine_iff] at h ⊢
  exact ⟨h.1, fun k => h.2.1 (k.imp id hd), h.2.2⟩
theorem do_fine {n : Int} {l : List S88} {ss : List S50} {dd : List Bool} {op of dir : Int} (hl : layoutOk n l = 0) (hd : dd.length = l.length) (h : ∀ j, j < ss.length → secFine l dd (j : Int) (rd_T50 ss (j : Int)) = true) (hev : eventOk n l op of dir = true) (hc : doCode l ss dd op of = 0) :
    ∀ j, j < (midSecs l ss op of dir).length → secFine l (midDead dd op of) (j : Int) (rd_T50 (midSecs l ss op of dir) (j : Int)) = true := by
  have key : ((op = 1 ∨ op = 2) ∧ 0 ≤ of ∧ of < (l.length : Int)) ∨ ((op = 3 ∨ op = 4) ∧ 0 ≤ of ∧ of < (l.length : Int)) ∨ (op = 5 ∧ 0 ≤ of ∧ of < n) := by
    unfold eventOk at hev
    rw [if_pos hl] at hev
    split at hev
    · rename_i h1; simp at hev; exact .inl ⟨h1, hev.1.1, hev.1.2⟩
    · split at hev
      · rename_i h1; simp at hev; exact .inr (.inl ⟨h1, hev.1.1, hev.1.2⟩)
      · split at hev
        · rename_i h1; simp at hev; exact .inr (.inr ⟨h1, hev.1.1, hev.1.2⟩)
        · cases hev
  rcases key with ⟨rfl | rfl, o0, o1⟩ | ⟨rfl | rfl, o0, o1⟩ | ⟨rfl, o0, o1⟩
  · have e1 : midSecs l ss 1 of dir = addS (addS ss (if dir = -1 then (rd_T88 l of).f1 else (rd_T88 l of).f0) (-1)) (if dir = -1 then (rd_T88 l of).f0 else (rd_T88 l of).f1) 1 := by simp [midSecs]
    have e2 : midDead dd 1 of = dd := by simp [midDead]
    rw [e1, e2]
    exact add_fine (.inl rfl) (add_fine (.inr rfl) h)
  · have e1 : midSecs l ss 2 of dir = addS ss (if dir = -1 then (rd_T88 l of).f0 else (rd_T88 l of).f1) 1 := by simp [midSecs]
    have e2 : midDead dd 2 of = dd := by simp [midDead]
    rw [e1, e2]
    exact add_fine (.inl rfl) h
  · have e1 : midSecs l ss 3 of dir = loseAt (loseAt ss (rd_T88 l of).f0) (rd_T88 l of).f1 := by simp [midSecs]
    have e2 : midDead dd 3 of = dd.set of.toNat true := by simp [midDead]
    rw [e1, e2]
    intro j hj
    rw [loseAt_length, loseAt_length] at hj
    rw [loseAt_get _ _ _ (by rw [loseAt_length]; exact hj), loseAt_get _ _ _ hj]
    by_cases f1 : (rd_T88 l of).f1 = (j : Int)
    · rw [if_pos f1]
      split
      · exact lose_fine (lose_fine (dd' := dd) (h j hj))
      · exact lose_fine (h j hj)
    · rw [if_neg f1]
      by_cases f0 : (rd_T88 l of).f0 = (j : Int)
      · rw [if_pos f0]; exact lose_fine (h j hj)
      · rw [if_neg f0]
        refine fine_dead (fun hx => dead_more hx ?_) (h j hj)
        rw [show ((of.toNat : Nat) : Int) = of by omega]
        simp [hits, f0, f1]
  · have e1 : midSecs l ss 4 of dir = ss := by simp [midSecs]
    have e2 : midDead dd 4 of = dd.set of.toNat false := by simp [midDead]
    rw [e1, e2]
    intro j hj
    exact fine_dead dead_less (h j hj)
  · have e1 : midSecs l ss 5 of dir = ss.set of.toNat ⟨0, 0, false, true, 0⟩ := by simp [midSecs]
    have e2 : midDead dd 5 of = dd := by simp [midDead]
    rw [e1, e2]
    intro j hj
    rw [List.length_set] at hj
    by_cases e : of.toNat = j
    · have hdd : deadAt l dd of = false := by
        cases hx : deadAt l dd of with
        | false => rfl
        | true =>
          rw [doCode, if_neg (by decide), if_pos rfl, if_pos hx] at hc
          exact absurd hc (by decide)
      have e3 : ((j : Nat) : Int) = of := by omega
      rw [show rd_T50 (ss.set of.toNat ⟨0, 0, false, true, 0⟩) (j : Int) = ⟨0, 0, false, true, 0⟩ by subst e; rw [rd_T50, Int.toNat_natCast]; simp [hj], e3, fine_iff]
      refine ⟨by simp, fun h => ?_, fun h => by simp at h⟩
      rw [hdd] at h
      simp at h
    · rw [show rd_T50 (ss.set of.toNat ⟨0, 0, false, true, 0⟩) (j : Int) = rd_T50 ss (j : Int) by simp [rd_T50, List.getElem?_set_ne e]]
      exact h j hj
theorem do_ok {n : Int} {l : List S88} {ss : List S50} {dd : List Bool} {op of dir : Int} (hl : layoutOk n l = 0) (hd : dd.length = l.length) (h : ∀ j, j < ss.length → secOk l dd (j : Int) (rd_T50 ss (j : Int)) = true) (hev : eventOk n l op of dir = true) :
    ∀ j, j < (doSecs l ss dd op of dir).length → secOk l (doDead l ss dd op of) (j : Int) (rd_T50 (doSecs l ss dd op of dir) (j : Int)) = true := by
  by_cases hc : doCode l ss dd op of = 0
  · unfold doSecs doDead
    rw [if_pos hc, if_pos hc]
    exact retold_fine (do_fine hl hd (fun j hj => ((ok_iff _ _ _ _).1 (h j hj)).2) hev hc)
  · unfold doSecs doDead
    rw [if_neg hc, if_neg hc]
    exact h
theorem step_ok {n : Int} {l : List S88} {s : S46} {e : S56} (h : stateOk n l s.f0 s.f1 s.f2 = true) : stateOk n l (runStep n l s e).f1.f0 (runStep n l s e).f1.f1 (runStep n l s e).f1.f2 = true := by
  obtain ⟨hl, ho, hn, hd, hsec⟩ := stateOk_of h
  unfold runStep
  split
  · rename_i hev
    exact stateOk_mk hl rfl (by rw [doSecs_length]; exact hn) (by rw [doDead_length]; exact hd) (do_ok hl hd hsec hev)
  · exact stateOk_mk hl rfl hn hd hsec
theorem anyFalse (l : List S88) (m : Nat) (s : Int) : deadAt l (List.replicate m false) s = false := by
  have h : ∀ d i, deadFrom l (List.replicate m false) s d i = false := by
    intro d
    induction d with
    | zero => intro i; rfl
    | succ d ih =>
      intro i
      have hr : rdOf false (List.replicate m false) (i : Int) = false := by
        simp only [rdOf, List.getD_eq_getElem?_getD, List.getElem?_replicate]; split <;> rfl
      simp only [deadFrom, hr, ih, Bool.false_and, Bool.or_self]
  exact h _ _
theorem st0_ok {n : Int} {l : List S88} (hl : layoutOk n l = 0) : stateOk n l (st0 n l).f0 (st0 n l).f1 (st0 n l).f2 = true := by
  have hn := lay_n hl
  refine stateOk_mk hl rfl (by simp [st0]; omega) (by simp [st0]) (fun j hj => ?_)
  have hz : rd_T50 (List.replicate n.toNat z50) (j : Int) = z50 := by
    simp only [rd_T50, List.getD_eq_getElem?_getD, List.getElem?_replicate]; split <;> rfl
  show secOk l (List.replicate l.length false) (j : Int) (rd_T50 (List.replicate n.toNat z50) (j : Int)) = true
  rw [hz, ok_iff, fine_iff, toldC, anyFalse]
  simp [z50]
theorem stAt_ok {n : Int} {l : List S88} (hl : layoutOk n l = 0) (es : List S56) (k : Nat) : stateOk n l (stAt n l es k).f0 (stAt n l es k).f1 (stAt n l es k).f2 = true := by
  unfold stAt
  have h : ∀ (es : List S56) (s : S46), stateOk n l s.f0 s.f1 s.f2 = true → stateOk n l (es.foldl (fun s e => (runStep n l s e).f1) s).f0 (es.foldl (fun s e => (runStep n l s e).f1) s).f1 (es.foldl (fun s e => (runStep n l s e).f1) s).f2 = true := by
    intro es
    induction es with
    | nil => intro s h; exact h
    | cons e es ih => intro s h; exact ih _ (step_ok h)
  exact h _ _ (st0_ok hl)
end Go.Proofs.Ytpdnabhpkdchjaa.P
namespace Go.Proofs.Ytpdnabhpkdchjaa.P
open Go.RowKit Go.Proofs.YtpdnabhpkdchjaaW.PrintWords Go.Proofs.YtpdnabhpkdchjaaW.PrintLast Go.Proofs.YtpdnabhpkdchjaaW.PrintMore
attribute [local go_sem] max2_int min2_int max_two min_two max_three min_three max_four min_four
set_option linter.unusedVariables false
set_option linter.unusedSimpArgs false
def slices_Min_int_int.l0:Nat→List Int→Int→Int→Option (Int)
 | 0,_,_,_=>none
 | k+1,x0,x3,x4=>if x4<(x0.length:Int) then (if 0≤x4 then (slices_Min_int_int.l0 k x0 (mn x3 (rd x0 x4)) (wrap64 (x4+1))) else (none)) else (some x3)
def slices_Min_int_int.f (k:Nat) (l0:List Int):Option (Int):=if (l0.length:Int)<1 then (none) else (if 0<(l0.length:Int) then (slices_Min_int_int.l0 k l0 (rd l0 0) 1) else (none))
set_option maxHeartbeats 8000000 in
set_option maxRecDepth 100000 in
theorem slices_Min_int_int.calls (k:Nat) (A0:Option Addr) (c0:Nat) (l0:List Int) (r:Int) (w:World) (hr0:Kd.C (Kd.int .i64) w A0 l0.length l0) (hc0:l0.length≤c0) (h:slices_Min_int_int.f k l0=some r) :
  Calls Try.prog 106 #[.slice A0 l0.length c0] w fun e w'=>e=.returned (.int .i64 r)∧Below w.heap.size w w':=by
 have HR0:=Aside0.mk hr0
 have HC0:=Aside0.mk hc0
 clear hr0 hc0
 have HB:=Aside0.mk (Below.refl w.heap.size w)
 have H:(if (l0.length:Int)<1 then (none) else (if 0<(l0.length:Int) then (slices_Min_int_int.l0 k l0 (rd l0 0) 1) else (none)))=some r:=h
 clear h
 by_cases c2:(l0.length:Int)<1
 ·rw [if_pos c2] at H
  exact absurd H (by simp)
 rw [if_neg c2] at H
 have c2b0:decide ((l0.length:Int)<1)=false:=decide_eq_false c2
 have c2b1:decide (l0.length<1)=false:=decide_eq_false (by omega)
 clear c2
 by_cases c3:0<(l0.length:Int)
 ·rw [if_pos c3] at H
  have c3b0:decide (0<(l0.length:Int))=true:=decide_eq_true c3
  have c3b1:decide (0<l0.length)=true:=decide_eq_true (by omega)
  clear c3
  have H':=Aside0.mk H
  clear H
  have p635:0≤(0:Int):=(by omega)
  have q635:0<(l0.length:Int):=of_decide_eq_true (by first|(with_reducible assumption)|assumption)
  obtain ⟨ad635,e635,hx635_0⟩:=Kd.at_int HR0.out 0 p635 q635
  cases e635
  have qi635:(0<l0.length)=True:=eq_true (by omega)
  (try rw [show ((0:Int)).toNat=0 from rfl] at hx635_0)
  (try rw [Addr.add_zero'] at hx635_0)
  replace p635:=eq_true p635
  replace q635:=eq_true q635
  go_enter Try.func106,Try.ntmps106
  go_wp2
  go_loopg [3,4] k (fun kq v3 v4 w'=>∃ (x3_1:Int) (x4_1:Int),v3=.int .i64 x3_1∧v4=.int .i64 x4_1∧Aside0 (slices_Min_int_int.l0 kq l0 x3_1 x4_1=some r)∧Aside0 (kq≤k)∧Aside0 (Below w.heap.size w w'))
  case atStart=>exact ⟨(rd l0 0),(1),(by first|rfl|(simp;done)|(simp [*];done)),(by first|rfl|(simp;done)|(simp [*];done)),H',⟨Nat.le_refl _⟩,⟨by repeat (first|(with_reducible first|exact HB.out|apply below_alloc|apply pw_below_drewN|apply below_drew1)|exact HB.out)⟩⟩
  case round =>
   clear H'
   try clear c1
   try clear c2
   try clear c2b0
   try clear c2b1
   try clear p2
   try clear c3
   try clear c3b0
   try clear c3b1
   try clear hx635_0
   try clear p635
   try clear q635
   obtain ⟨x3_1,x4_1,rfl,rfl,HA,HK1,HB⟩:=hrel
   cases gk with
   | zero=>exact absurd HA.out (by simp [slices_Min_int_int.l0])
   | succ k1 =>
    have H:=HA.out
    clear HA
    simp only [slices_Min_int_int.l0] at H
    by_cases c4:x4_1<(l0.length:Int)
    ·rw [if_pos c4] at H
     have c4b0:decide (x4_1<(l0.length:Int))=true:=decide_eq_true c4
     clear c4
     by_cases c5:0≤x4_1
     ·rw [if_pos c5] at H
      have c5b0:decide (0≤x4_1)=true:=decide_eq_true c5
      clear c5
      obtain ⟨ji6,hji6⟩:∃ j_:Int,(mn x3_1 (rd l0 x4_1))=j_:=⟨_,rfl⟩
      replace H:(slices_Min_int_int.l0 k1 l0 ji6 (wrap64 (x4_1+1)))=some r:=by first|(rw [hji6] at H;exact H)|(simp only [hji6] at H ⊢;exact H)
      have hji6_:(if (rd l0 x4_1)<x3_1 then (rd l0 x4_1) else x3_1)=ji6:=hji6
      have H':=Aside0.mk H
      clear H
      have p636:0≤(x4_1:Int):=of_decide_eq_true (by first|(with_reducible assumption)|assumption)
      have q636:x4_1<(l0.length:Int):=of_decide_eq_true (by first|(with_reducible assumption)|assumption)
      obtain ⟨ad636,e636,hx636_0⟩:=Kd.at_int HR0.out x4_1 p636 q636
      obtain rfl:ad635=ad636:=(by injection e636)
      replace hx636_0:=(HB.out.cell (World.block_lt_of_cell? w _ hx636_0)).trans hx636_0
      replace p636:=eq_true p636
      replace q636:=eq_true q636
      go_wp2
      go_roundg k1
      case measure=>have:=HK1.out;omega
      case rel=>exact ⟨(ji6),(wrap64 (x4_1+1)),(by first|rfl|(simp;done)|(simp only [← hji6] <;> (first|rfl|simp))|(simp [*];done)),(by first|rfl|(simp;done)|(simp [*];done)),H',⟨by have:=HK1.out;omega⟩,⟨by repeat (first|(with_reducible first|exact HB.out|apply below_alloc|apply pw_below_drewN|apply below_drew1)|exact HB.out)⟩⟩
     rw [if_neg c5] at H
     exact absurd H (by simp)
    rw [if_neg c4] at H
    have c4b0:decide (x4_1<(l0.length:Int))=false:=decide_eq_false c4
    clear c4
    obtain rfl:=Option.some.inj H
    go_wp2
    go_ret
    exact ⟨by first|rfl|(simp [errW_none,errW_some] <;> rfl)|(simp [*,errW_none,errW_some] <;> rfl),by repeat (first|(with_reducible first|exact HB.out|apply below_alloc|apply pw_below_drewN|apply below_drew1)|exact HB.out)⟩
 rw [if_neg c3] at H
 exact absurd H (by simp)
end Go.Proofs.Ytpdnabhpkdchjaa.P
namespace Go.Proofs.Ytpdnabhpkdchjaa.P
open Go.RowKit Go.Proofs.YtpdnabhpkdchjaaW.PrintWords Go.Proofs.YtpdnabhpkdchjaaW.PrintLast
set_option linter.unusedVariables false
set_option linter.unusedSimpArgs false
def nonneg (row : List Int) : Bool := row.all fun x => decide (0 ≤ x)
def honestAt (n : Int) (l : List S88) (es : List S56) (k : Nat) : Bool :=
  eventOk n l (rd_T56 es k).f0 (rd_T56 es k).f1 (rd_T56 es k).f2 && !(decide ((rd_T56 es k).f0 = 5) && !(decide (rd (truthAt n l es (k + 1)) (rd_T56 es k).f1 = 0))) && nonneg (truthAt n l es (k + 1))
def honestFrom (n : Int) (l : List S88) (es : List S56) : Nat → Nat → Bool
  | 0, _ => true
  | d + 1, i => honestAt n l es i && honestFrom n l es d (i + 1)
def honest (n : Int) (l : List S88) (es : List S56) : Bool := decide (layoutOk n l = 0) && decide (es.length ≤ 2000) && honestFrom n l es es.length 0
section
variable {n : Int} {l : List S88} {es : List S56}
theorem truth_good (hl : layoutOk n l = 0) (he : es.length ≤ 2000) : truth n l es = (List.range es.length).map fun k => truthAt n l es (k + 1) := by rw [truth, if_pos ⟨hl, he⟩]
theorem truth_len (hl : layoutOk n l = 0) (he : es.length ≤ 2000) : (truth n l es).length = es.length := by rw [truth_good hl he]; simp
theorem truth_rd (hl : layoutOk n l = 0) (he : es.length ≤ 2000) (i : Nat) (hi : i < es.length) : rd_L12 (truth n l es) (i : Int) = truthAt n l es (i + 1) := by
  rw [truth_good hl he]
  simp [rd_L12, hi]
theorem eventOk_reset {op of dir : Int} (h : eventOk n l op of dir = true) (h5 : op = 5) : 0 ≤ of ∧ of < n := by
  subst h5
  unfold eventOk at h
  split at h
  · simp at h
    exact h.1
  · cases h
theorem rd_all {row : List Int} (h : nonneg row = true) (j : Nat) (hj : j < row.length) : ¬ rd row (j : Int) < 0 := by
  have h1 := List.all_eq_true.1 h row[j] (List.getElem_mem hj)
  have h2 : rd row (j : Int) = row[j] := by simp [rd, hj]
  rw [h2]
  simpa using h1
def minL : List Int → Int → Int
  | [], m => m
  | x :: xs, m => minL xs (mn m x)
theorem minL_neg : ∀ (xs : List Int) (m : Int), (minL xs m < 0) ↔ (m < 0 ∨ nonneg xs = false) := by
  intro xs
  induction xs with
  | nil => intro m; simp [minL, nonneg]
  | cons x xs ih =>
    intro m
    rw [minL, ih]
    simp only [nonneg, List.all_cons]
    have hm : mn m x < 0 ↔ (m < 0 ∨ x < 0) := by unfold mn; split <;> omega
    rw [hm]
    by_cases hx : x < 0
    · rw [decide_eq_false (show ¬ 0 ≤ x by omega)]; simp [hx]
    · rw [decide_eq_true (show 0 ≤ x by omega)]; simp [hx]
theorem min_l0 (row : List Int) (hrow : row.length < 9223372036854775807) (d : Nat) : ∀ (i : Nat) (m : Int), i + d = row.length → Ev (fun k => slices_Min_int_int.l0 k row m (i : Int)) (minL (row.drop i) m) := by
  induction d with
  | zero =>
    intro i m hi
    rw [List.drop_eq_nil_of_le (by omega)]
    refine Ev.step1 fun k => ?_
    simp only [slices_Min_int_int.l0]
    rw [if_neg (by omega)]
    rfl
  | succ d ih =>
    intro i m hi
    have hlt : i < row.length := by omega
    have hr : rd row (i : Int) = row[i] := by simp [rd, hlt]
    rw [List.drop_eq_getElem_cons hlt]
    refine Ev.step (fun k => ?_) (ih (i + 1) (mn m row[i]) (by omega))
    simp only [slices_Min_int_int.l0, hr, wrap_succ (show i < 9223372036854775807 by omega)]
    rw [if_pos (by omega), if_pos (by omega)]
theorem min_ev (row : List Int) (h0 : 0 < row.length) (hrow : row.length < 9223372036854775807) : Ev (fun k => slices_Min_int_int.f k row) (minL (row.drop 1) (rd row 0)) := by
  unfold slices_Min_int_int.f
  exact Ev.ite_neg (by omega) (Ev.ite_pos (by omega) (min_l0 row hrow (row.length - 1) 1 _ (by omega)))
theorem min_neg (row : List Int) (h0 : 0 < row.length) : (minL (row.drop 1) (rd row 0) < 0) ↔ nonneg row = false := by
  rw [minL_neg]
  cases row with
  | nil => simp at h0
  | cons x xs =>
    have : rd (x :: xs) 0 = x := by simp [rd]
    rw [this]
    simp only [List.drop_succ_cons, List.drop_zero, nonneg, List.all_cons]
    by_cases hx : x < 0
    · rw [decide_eq_false (show ¬ 0 ≤ x by omega)]; simp [hx]
    · rw [decide_eq_true (show 0 ≤ x by omega)]; simp [hx]
theorem truthAt_reset {j : Nat} (h : j < es.length) (h5 : (rd_T56 es j).f0 = 5) : truthAt n l es (j + 1) = truthAt n l es j := by
  rw [truthAt_succ h, tstep, if_neg]
  rw [rd56 es j h] at h5
  simp [isPass, h5]
theorem honestAt_not {j : Nat} (h : eventOk n l (rd_T56 es j).f0 (rd_T56 es j).f1 (rd_T56 es j).f2 = false) : honestAt n l es j = false := by unfold honestAt; rw [h]; rfl
theorem honestAt_zero {j : Nat} (h : eventOk n l (rd_T56 es j).f0 (rd_T56 es j).f1 (rd_T56 es j).f2 = true) (hz : rd (truthAt n l es (j + 1)) (rd_T56 es j).f1 = 0) : honestAt n l es j = nonneg (truthAt n l es (j + 1)) := by
  unfold honestAt; rw [h, decide_eq_true hz, Bool.not_true, Bool.and_false]; rfl
theorem honestAt_some {j : Nat} (h5 : (rd_T56 es j).f0 = 5) (hz : ¬ rd (truthAt n l es (j + 1)) (rd_T56 es j).f1 = 0) : honestAt n l es j = false := by
  unfold honestAt; rw [decide_eq_true h5, decide_eq_false hz, Bool.not_false, Bool.and_true, Bool.not_true, Bool.and_false]; rfl
theorem honestAt_other {j : Nat} (h : eventOk n l (rd_T56 es j).f0 (rd_T56 es j).f1 (rd_T56 es j).f2 = true) (h5 : ¬ (rd_T56 es j).f0 = 5) : honestAt n l es j = nonneg (truthAt n l es (j + 1)) := by
  unfold honestAt; rw [h, decide_eq_false h5, Bool.false_and]; rfl
end
end Go.Proofs.Ytpdnabhpkdchjaa.P
namespace Go.Proofs.Ytpdnabhpkdchjaa.P
open Go.RowKit Go.Proofs.YtpdnabhpkdchjaaW.PrintWords Go.Proofs.YtpdnabhpkdchjaaW.PrintLast Go.Proofs.YtpdnabhpkdchjaaW.PrintMore
set_option linter.unusedVariables false
set_option linter.unusedSimpArgs false
section
variable {code : List Int} {n : Int} {l : List S88} {ho : Bool}
theorem truthAt_app (es : List S56) (e : S56) (k : Nat) (h : k ≤ es.length) : truthAt n l (es ++ [e]) k = truthAt n l es k := by
  rw [truthAt, truthAt, List.take_append_of_le_length h]
theorem truthAt_last (es : List S56) (e : S56) : truthAt n l (es ++ [e]) (es ++ [e]).length = tstep n l (truthAt n l es es.length) e := by
  rw [truthAt, truthAt, List.take_length, List.take_length, List.foldl_append]
  rfl
theorem rd_set (row : List Int) (i j : Nat) (v : Int) (hi : i < row.length) : rd (row.set i v) (j : Int) = if i = j then v else rd row (j : Int) := by
  simp only [rd, Int.toNat_natCast, List.getD_eq_getElem?_getD, List.getElem?_set]
  by_cases e : i = j
  · subst e; simp [hi]
  · simp [e]
theorem nonneg_of {row : List Int} (h : ∀ j : Nat, j < row.length → 0 ≤ rd row (j : Int)) : nonneg row = true := by
  unfold nonneg
  refine List.all_eq_true.2 fun x hx => ?_
  obtain ⟨j, hj, rfl⟩ := List.mem_iff_getElem.1 hx
  have := h j hj
  rw [show rd row (j : Int) = row[j] by simp [rd, hj]] at this
  simpa using this
def mvAt (f t : Int) (j : Nat) (x : Int) : Int := if f = (j : Int) then x - 1 else if t = (j : Int) then x + 1 else x
theorem rd_upd (row : List Int) (f v : Int) (hf : f < row.length) (j : Nat) : rd (if 0 ≤ f then row.set f.toNat v else row) (j : Int) = if f = (j : Int) then v else rd row (j : Int) := by
  by_cases h0 : 0 ≤ f
  · obtain ⟨a, rfl⟩ := Int.eq_ofNat_of_zero_le h0
    rw [if_pos h0, Int.toNat_natCast, rd_set row a j v (by omega)]
    by_cases e : a = j
    · rw [if_pos e, if_pos (by omega)]
    · rw [if_neg e, if_neg (by omega)]
  · rw [if_neg h0, if_neg (by omega)]
theorem upd_length (row : List Int) (f v : Int) : (if 0 ≤ f then row.set f.toNat v else row).length = row.length := by split <;> simp
theorem mv_rd (row : List Int) (f t : Int) (hf : f < row.length) (ht : t < row.length) (hne : f ≠ t) (hb : ∀ j : Nat, -1000000 ≤ rd row (j : Int) ∧ rd row (j : Int) ≤ 1000000) (hf0 : -1 ≤ f) (ht0 : -1 ≤ t) (j : Nat) : rd (mv row f t) (j : Int) = mvAt f t j (rd row (j : Int)) := by
  have hbj := hb j
  unfold mv mvAt
  simp only []
  rw [rd_upd _ t _ (by rw [upd_length]; exact ht) j]
  by_cases et : t = (j : Int)
  · have hfj : ¬ f = (j : Int) := by omega
    rw [if_pos et, et, rd_upd row f _ hf j, if_neg hfj, if_neg hfj, if_pos rfl, wrap_id (by omega) (by omega)]
  · rw [if_neg et, rd_upd row f _ hf j, if_neg et]
    by_cases ef : f = (j : Int)
    · rw [if_pos ef, if_pos ef, ef, wrap_id (by omega) (by omega)]
    · rw [if_neg ef, if_neg ef]
theorem rows_ext {r s : List Int} (hl : r.length = s.length) (h : ∀ j : Nat, j < r.length → rd r (j : Int) = rd s (j : Int)) : r = s := by
  apply List.ext_getElem hl
  intro i h1 h2
  have := h i h1
  simpa [rd, h1, h2] using this
theorem axle_rd (c : S88) (d : Int) (row : List Int) (hd : d = 1 ∨ d = -1) (hf : c.f0 < row.length) (ht : c.f1 < row.length) (hne : c.f0 ≠ c.f1) (hb : ∀ j : Nat, -1000000 ≤ rd row (j : Int) ∧ rd row (j : Int) ≤ 1000000) (hf0 : -1 ≤ c.f0) (ht0 : -1 ≤ c.f1) (j : Nat) :
    rd (axle c d row) (j : Int) = mvAt (if d < 0 then c.f1 else c.f0) (if d < 0 then c.f0 else c.f1) j (rd row (j : Int)) := by
  have hbj := hb j
  have key : rd (axle c d row) (j : Int) = if c.f0 = (j : Int) then rd row (j : Int) - d else if c.f1 = (j : Int) then rd row (j : Int) + d else rd row (j : Int) := by
    unfold axle
    simp only []
    rw [rd_upd _ c.f1 _ (by rw [upd_length]; exact ht) j]
    by_cases et : c.f1 = (j : Int)
    · have hfj : ¬ c.f0 = (j : Int) := by omega
      rw [if_pos et, et, rd_upd row c.f0 _ hf j, if_neg hfj, if_neg hfj, if_pos rfl, wrap_id (by omega) (by omega)]
    · rw [if_neg et, rd_upd row c.f0 _ hf j, if_neg et]
      by_cases ef : c.f0 = (j : Int)
      · rw [if_pos ef, if_pos ef, ef, wrap_id (by omega) (by omega)]
      · rw [if_neg ef, if_neg ef]
  rw [key]
  unfold mvAt
  rcases hd with rfl | rfl
  · simp
  · simp only [show ((-1 : Int) < 0) from by decide, if_true]
    by_cases e0 : c.f0 = (j : Int)
    · rw [if_pos e0, if_neg (by omega), if_pos e0]; omega
    · rw [if_neg e0]
      by_cases e1 : c.f1 = (j : Int)
      · rw [if_pos e1, if_pos e1]; omega
      · rw [if_neg e1, if_neg e1, if_neg e0]
def HonP (n : Int) (l : List S88) (es : List S56) : Prop := ∀ k : Nat, k < es.length → ((rd_T56 es (k : Int)).f0 = 5 → rd (truthAt n l es k) (rd_T56 es (k : Int)).f1 = 0) ∧ nonneg (truthAt n l es (k + 1)) = true
theorem rd56_app_lt (es : List S56) (e : S56) (k : Nat) (h : k < es.length) : rd_T56 (es ++ [e]) (k : Int) = rd_T56 es (k : Int) := by
  rw [rd56 _ k (by simp; omega), rd56 _ k h, List.getElem_append_left h]
theorem rd56_app_eq (es : List S56) (e : S56) : rd_T56 (es ++ [e]) (es.length : Int) = e := by
  rw [rd56 _ es.length (by simp)]; simp
theorem HonP.app {es : List S56} {e : S56} (h : HonP n l es) (h5 : e.f0 = 5 → rd (truthAt n l es es.length) e.f1 = 0) (hn : nonneg (tstep n l (truthAt n l es es.length) e) = true) : HonP n l (es ++ [e]) := by
  intro k hk
  rw [List.length_append, List.length_singleton] at hk
  by_cases e1 : k < es.length
  · rw [rd56_app_lt es e k e1, truthAt_app es e k (by omega), truthAt_app es e (k + 1) (by omega)]
    exact h k e1
  · have : k = es.length := by omega
    subst this
    rw [rd56_app_eq, truthAt_app es e _ (Nat.le_refl _)]
    refine ⟨h5, ?_⟩
    have := truthAt_last (n := n) (l := l) es e
    rw [List.length_append, List.length_singleton] at this
    rw [this]
    exact hn
theorem honest_of {es : List S56} (hl : layoutOk n l = 0) (he : es.length ≤ 2000) (hok : ∀ e ∈ es, eventOk n l e.f0 e.f1 e.f2 = true) (h : HonP n l es) : honest n l es = true := by
  have key : ∀ d i : Nat, i + d = es.length → honestFrom n l es d i = true := by
    intro d
    induction d with
    | zero => intro i _; rfl
    | succ d ih =>
      intro i hi
      have hlt : i < es.length := by omega
      obtain ⟨h1, h2⟩ := h i hlt
      have h3 : eventOk n l (rd_T56 es (i : Int)).f0 (rd_T56 es (i : Int)).f1 (rd_T56 es (i : Int)).f2 = true := by
        rw [rd56 es i hlt]; exact hok _ (List.getElem_mem hlt)
      have h4 : (rd_T56 es (i : Int)).f0 = 5 → rd (truthAt n l es (i + 1)) (rd_T56 es (i : Int)).f1 = 0 := fun h5 => by rw [truthAt_reset hlt h5]; exact h1 h5
      unfold honestFrom
      rw [ih (i + 1) (by omega), Bool.and_true]
      unfold honestAt
      rw [h3, h2, Bool.true_and, Bool.and_true]
      by_cases h5 : (rd_T56 es (i : Int)).f0 = 5
      · rw [decide_eq_true h5, decide_eq_true (h4 h5)]; rfl
      · rw [decide_eq_false h5]; rfl
  unfold honest
  rw [decide_eq_true hl, decide_eq_true he, key es.length 0 (by omega)]
  rfl
structure EvI (n : Int) (l : List S88) (ho : Bool) (s : EvP) : Prop where
  th : s.th = truthAt n l s.out s.out.length
  dead0 : -1 ≤ s.dead
  dead1 : s.dead < (l.length : Int)
  ok : ∀ e ∈ s.out, eventOk n l e.f0 e.f1 e.f2 = true
  bd : ∀ j : Nat, -(s.out.length : Int) ≤ rd s.th (j : Int) ∧ rd s.th (j : Int) ≤ (s.out.length : Int)
  hon : ho = true → HonP n l s.out ∧ nonneg s.th = true
theorem EvI.skip {s : EvP} (h : EvI n l ho s) (c : Int × Int) (d : Int) (h0 : -1 ≤ d) (h1 : d < (l.length : Int)) : EvI n l ho ⟨c, s.th, d, s.out⟩ := ⟨h.th, h0, h1, h.ok, h.bd, h.hon⟩
theorem mem_snoc {e x : S56} {es : List S56} (h : x ∈ es ++ [e]) : x ∈ es ∨ x = e := by simpa using h
theorem EvI.add {s : EvP} (h : EvI n l ho s) (c : Int × Int) (d : Int) (h0 : -1 ≤ d) (h1 : d < (l.length : Int)) (e : S56) (hok : eventOk n l e.f0 e.f1 e.f2 = true) (hne : e.f0 ≠ 1) (h5 : ho = true → e.f0 = 5 → rd s.th e.f1 = 0) :
    EvI n l ho ⟨c, s.th, d, s.out ++ [e]⟩ := by
  have ht : tstep n l s.th e = s.th := by
    unfold tstep isPass
    rw [decide_eq_false hne, Bool.and_false]; rfl
  have hl := truthAt_last (n := n) (l := l) s.out e
  rw [← h.th, ht] at hl
  refine ⟨hl.symm, h0, h1, fun x hx => ?_, fun j => ?_, fun hh => ?_⟩
  · rcases mem_snoc hx with hx | rfl
    · exact h.ok x hx
    · exact hok
  · have := h.bd j
    simp only [List.length_append, List.length_singleton]
    exact ⟨by omega, by omega⟩
  · obtain ⟨k1, k2⟩ := h.hon hh
    refine ⟨k1.app (fun q => by rw [← h.th]; exact h5 hh q) (by rw [← h.th, ht]; exact k2), k2⟩
theorem EvI.pass {s : EvP} (h : EvI n l ho s) (hl0 : layoutOk n l = 0) (c : Int × Int) (k d f t : Int) (hk0 : 0 ≤ k) (hk1 : k < (l.length : Int)) (hd : d = 1 ∨ d = -1) (hlen : s.out.length ≤ 1000)
    (hf : f = if d < 0 then (rd_T88 l k).f1 else (rd_T88 l k).f0) (ht : t = if d < 0 then (rd_T88 l k).f0 else (rd_T88 l k).f1) (hgo : ho = true → f < 0 ∨ 0 < rd s.th f) :
    EvI n l ho ⟨c, mv s.th f t, s.dead, s.out ++ [⟨1, k, d⟩]⟩ := by
  have hn := lay_n hl0
  have hx := lay_rd hl0 k hk0 hk1
  have hth : s.th.length = n.toNat := by rw [h.th, truthAt_length]
  have hok : eventOk n l 1 k d = true := by
    unfold eventOk
    rw [if_pos hl0, if_pos (Or.inl rfl), decide_eq_true hk0, decide_eq_true hk1]
    rcases hd with rfl | rfl <;> rfl
  have hbd : ∀ j : Nat, -1000000 ≤ rd s.th (j : Int) ∧ rd s.th (j : Int) ≤ 1000000 := fun j => by have := h.bd j; omega
  have hfr : -1 ≤ f ∧ f < n ∧ -1 ≤ t ∧ t < n ∧ f ≠ t := by
    rw [hf, ht]
    by_cases h2 : d < 0
    · simp only [if_pos h2]; omega
    · simp only [if_neg h2]; omega
  have hmv : ∀ j : Nat, rd (mv s.th f t) (j : Int) = mvAt f t j (rd s.th (j : Int)) := fun j => mv_rd s.th f t (by rw [hth]; omega) (by rw [hth]; omega) hfr.2.2.2.2 hbd hfr.1 hfr.2.2.1 j
  have hst : tstep n l s.th ⟨1, k, d⟩ = mv s.th f t := by
    unfold tstep isPass
    rw [hok, Bool.true_and, decide_eq_true rfl, if_pos rfl]
    refine rows_ext (by rw [axle_length, mv_length]) fun j hj => ?_
    rw [hmv j]
    show rd (axle (rd_T88 l k) d s.th) (j : Int) = _
    rw [axle_rd _ _ _ hd (by rw [hth]; omega) (by rw [hth]; omega) hx.2.2.2.2 hbd hx.1 hx.2.2.1, ← hf, ← ht]
  have hl := truthAt_last (n := n) (l := l) s.out ⟨1, k, d⟩
  rw [← h.th, hst] at hl
  refine ⟨hl.symm, h.dead0, h.dead1, fun x hx => ?_, fun j => ?_, fun hh => ?_⟩
  · rcases mem_snoc hx with hx | rfl
    · exact h.ok x hx
    · exact hok
  · have hb := h.bd j
    show -((s.out ++ [(⟨1, k, d⟩ : S56)]).length : Int) ≤ rd (mv s.th f t) (j : Int) ∧ _
    rw [hmv j]
    simp only [List.length_append, List.length_singleton, mvAt]
    split
    · exact ⟨by omega, by omega⟩
    · split
      · exact ⟨by omega, by omega⟩
      · exact ⟨by omega, by omega⟩
  · obtain ⟨k1, k2⟩ := h.hon hh
    have hnn : nonneg (mv s.th f t) = true := by
      refine nonneg_of fun j hj => ?_
      rw [mv_length] at hj
      rw [hmv j]
      have h0 := rd_all k2 j hj
      unfold mvAt
      split
      · rename_i e
        rcases hgo hh with h2 | h2
        · omega
        · rw [e] at h2; omega
      · split <;> omega
    exact ⟨k1.app (fun q => by exact absurd q (by show ¬ (1 : Int) = 5; decide)) (by rw [← h.th, hst]; exact hnn), hnn⟩
theorem dir_of {v : Int} (h0 : 0 ≤ v) (h1 : v < 2) : wrap64 (1 - wrap64 (2 * v)) = 1 ∨ wrap64 (1 - wrap64 (2 * v)) = -1 := by
  rw [wrap_id (x := 2 * v) (by omega) (by omega), wrap_id (by omega) (by omega)]
  omega
theorem ok12 (hl0 : layoutOk n l = 0) {op k d : Int} (ho : op = 1 ∨ op = 2) (h0 : 0 ≤ k) (h1 : k < (l.length : Int)) (hd : d = 1 ∨ d = -1) : eventOk n l op k d = true := by
  unfold eventOk
  rw [if_pos hl0, if_pos ho, decide_eq_true h0, decide_eq_true h1]
  rcases hd with rfl | rfl <;> rfl
theorem ok34 (hl0 : layoutOk n l = 0) {op k : Int} (ho : op = 3 ∨ op = 4) (h0 : 0 ≤ k) (h1 : k < (l.length : Int)) : eventOk n l op k 0 = true := by
  unfold eventOk
  rw [if_pos hl0, if_neg (by omega), if_pos ho, decide_eq_true h0, decide_eq_true h1]
  rfl
theorem ok5 (hl0 : layoutOk n l = 0) {k : Int} (h0 : 0 ≤ k) (h1 : k < n) : eventOk n l 5 k 0 = true := by
  unfold eventOk
  rw [if_pos hl0, if_neg (by omega), if_neg (by omega), if_pos rfl, decide_eq_true h0, decide_eq_true h1]
  rfl
theorem evAsk_ok {yes ho : Bool} {c : Int × Int} {m b : Int} (hc : CurOk code b c) (hb : b ≤ 2000000000) (hm : 0 < m) : CurOk code (b + 2) (evAsk code yes ho c m).2 ∧ (ho = true → (evAsk code yes ho c m).1 = true → yes = true) := by
  unfold evAsk
  obtain ⟨v, c', _, hp, _, _, hc'⟩ := pick_ok hc (by omega) hm
  cases yes with
  | true => exact ⟨hc.mono (by omega), fun _ _ => rfl⟩
  | false =>
    cases ho with
    | true => exact ⟨hc.mono (by omega), fun _ h => absurd h (by simp)⟩
    | false => simp only [hp]; exact ⟨hc', fun h => absurd h (by simp)⟩
theorem evStep_ok {s : EvP} {b : Int} (hl0 : layoutOk n l = 0) (hlp : 0 < l.length) (h : EvI n l ho s) (hc : CurOk code b s.c) (hb : b ≤ 1900000000) (hlen : s.out.length ≤ 1000) :
    EvI n l ho (evStep code n l ho s) ∧ CurOk code (b + 12) (evStep code n l ho s).c ∧ (evStep code n l ho s).out.length ≤ s.out.length + 1 := by
  have hn := lay_n hl0
  obtain ⟨k, c1, _, hk, k0, k1, hc1⟩ := pick_ok (m := (l.length : Int)) hc (by omega) (by omega)
  obtain ⟨a, c2, _, ha, a0, a1, hc2⟩ := pick_ok (m := 16) hc1 (by omega) (by omega)
  unfold evStep
  simp only [hk, ha]
  split
  · obtain ⟨v, c3, _, hv, v0, v1, hc3⟩ := pick_ok (m := 2) hc2 (by omega) (by omega)
    simp only [hv]
    exact ⟨h.add _ _ h.dead0 h.dead1 _ (ok12 hl0 (.inr rfl) k0 k1 (dir_of v0 v1)) (by show (2 : Int) ≠ 1; decide) (fun _ q => absurd q (by show (2 : Int) ≠ 5; decide)), hc3.mono (by omega), by simp⟩
  · split
    · exact ⟨h.add _ _ (by omega) k1 _ (ok34 hl0 (.inl rfl) k0 k1) (by show (3 : Int) ≠ 1; decide) (fun _ q => absurd q (by show (3 : Int) ≠ 5; decide)), hc2.mono (by omega), by simp⟩
    · split
      · refine ⟨h.add _ _ (by omega) (by omega) _ (ok34 hl0 (.inr rfl) ?_ ?_) (by show (4 : Int) ≠ 1; decide) (fun _ q => absurd q (by show (4 : Int) ≠ 5; decide)), hc2.mono (by omega), by simp⟩
        · show 0 ≤ (if 0 ≤ s.dead then s.dead else k)
          split
          · assumption
          · exact k0
        · show (if 0 ≤ s.dead then s.dead else k) < (l.length : Int)
          split
          · exact h.dead1
          · exact k1
      · split
        · unfold evReset
          obtain ⟨v, c3, _, hv, v0, v1, hc3⟩ := pick_ok (m := n) hc2 (by omega) (by omega)
          simp only [hv]
          have hq := evAsk_ok (yes := rd s.th v == 0) (ho := ho) (m := 4) hc3 (by omega) (by omega)
          generalize evAsk code (rd s.th v == 0) ho c3 4 = q at hq
          obtain ⟨yes, c4⟩ := q
          cases yes with
          | true =>
            exact ⟨h.add _ _ h.dead0 h.dead1 _ (ok5 hl0 v0 v1) (by show (5 : Int) ≠ 1; decide) (fun hh _ => by have := hq.2 hh rfl; show rd s.th v = 0; simpa using this), hq.1.mono (by omega), by simp⟩
          | false => exact ⟨h.skip _ _ h.dead0 h.dead1, hq.1.mono (by omega), by simp⟩
        · unfold evPass
          obtain ⟨v, c3, _, hv, v0, v1, hc3⟩ := pick_ok (m := 2) hc2 (by omega) (by omega)
          simp only [hv]
          obtain ⟨d, hd⟩ : ∃ d, d = wrap64 (1 - wrap64 (2 * v)) := ⟨_, rfl⟩
          have hdir := dir_of v0 v1
          rw [← hd] at hdir ⊢
          obtain ⟨f, hf⟩ : ∃ f, f = if d < 0 then (rd_T88 l k).f1 else (rd_T88 l k).f0 := ⟨_, rfl⟩
          obtain ⟨t, ht⟩ : ∃ t, t = if d < 0 then (rd_T88 l k).f0 else (rd_T88 l k).f1 := ⟨_, rfl⟩
          rw [← hf, ← ht]
          have hq := evAsk_ok (yes := decide (f < 0) || decide (0 < rd s.th f)) (ho := ho) (m := 8) hc3 (by omega) (by omega)
          generalize evAsk code (decide (f < 0) || decide (0 < rd s.th f)) ho c3 8 = q at hq
          obtain ⟨yes, c4⟩ := q
          cases yes with
          | true =>
            rw [if_pos rfl]
            exact ⟨h.pass hl0 _ k d f t k0 k1 hdir hlen hf ht (fun hh => by have := hq.2 hh rfl; simpa using this), hq.1.mono (by omega), by simp⟩
          | false =>
            rw [if_neg (by simp)]
            exact ⟨h.skip _ _ h.dead0 h.dead1, hq.1.mono (by omega), by simp⟩
theorem evLoop_ok (hl0 : layoutOk n l = 0) : ∀ (q : Nat) (s : EvP) (b : Int), EvI n l ho s → CurOk code b s.c → b + 12 * q ≤ 1900000000 → s.out.length + q ≤ 1000 →
    EvI n l ho (evLoop code n l ho q s) ∧ CurOk code (b + 12 * q) (evLoop code n l ho q s).c ∧ (evLoop code n l ho q s).out.length ≤ s.out.length + q := by
  have hn := lay_n hl0
  intro q
  induction q with
  | zero => intro s b h hc _ _; exact ⟨h, hc.mono (by omega), by simp [evLoop]⟩
  | succ q ih =>
    intro s b h hc hb hlen
    unfold evLoop
    by_cases hz : l.length = 0
    · obtain ⟨v, c3, _, hv, v0, v1, hc3⟩ := pick_ok (m := n) hc (by omega) (by omega)
      rw [if_pos hz]
      simp only [hv]
      refine ⟨h.add _ _ h.dead0 h.dead1 _ (ok5 hl0 v0 v1) (by show (5 : Int) ≠ 1; decide) (fun hh _ => ?_), hc3.mono (by omega), by simp⟩
      have hall : ∀ es : List S56, (∀ e ∈ es, eventOk n l e.f0 e.f1 e.f2 = true) → es.foldl (tstep n l) (row0 n) = row0 n := by
        intro es
        induction es with
        | nil => intro _; rfl
        | cons e es ih2 =>
          intro hes
          have he : isPass n l e = false := by
            cases hp : isPass n l e with
            | false => rfl
            | true => obtain ⟨_, p1, p2, _⟩ := isPass_of hp; omega
          rw [List.foldl_cons, show tstep n l (row0 n) e = row0 n by unfold tstep; rw [he]; rfl]
          exact ih2 (fun e he => hes e (List.mem_cons_of_mem _ he))
      show rd s.th v = 0
      rw [h.th, truthAt, List.take_length, hall _ h.ok, rd, row0]
      simp only [List.getD_eq_getElem?_getD, List.getElem?_replicate]
      split <;> rfl
    · rw [if_neg hz]
      obtain ⟨k1, k2, k3⟩ := evStep_ok (code := code) hl0 (by omega) h hc (by omega) (by omega)
      obtain ⟨j1, j2, j3⟩ := ih _ _ k1 k2 (by omega) (by omega)
      exact ⟨j1, j2.mono (by omega), by omega⟩
theorem evDraw_ok {b : Int} {c : Int × Int} (hl0 : layoutOk n l = 0) (hc : CurOk code b c) (hb : b ≤ 1000000000) : EvI n l ho (evDraw code n l ho c) ∧ (evDraw code n l ho c).out.length ≤ 30 := by
  have hn := lay_n hl0
  unfold evDraw
  obtain ⟨v, c1, _, hv, v0, v1, hc1⟩ := pick_ok (m := 30) hc (by omega) (by omega)
  simp only [hv]
  have hrow : ∀ j : Nat, rd (List.replicate n.toNat (0 : Int)) (j : Int) = 0 := fun j => by
    rw [rd]
    simp only [List.getD_eq_getElem?_getD, List.getElem?_replicate]
    split <;> rfl
  have h := evLoop_ok (code := code) (ho := ho) hl0 v.toNat ⟨c1, List.replicate n.toNat 0, -1, []⟩ (b + 2)
    ⟨by simp [truthAt, row0], by show (-1 : Int) ≤ -1; decide, by show (-1 : Int) < _; omega, fun e he => absurd he (by simp), fun j => by show -((0 : Nat) : Int) ≤ rd (List.replicate n.toNat (0 : Int)) (j : Int) ∧ rd (List.replicate n.toNat (0 : Int)) (j : Int) ≤ ((0 : Nat) : Int); rw [hrow j]; simp,
     fun _ => ⟨fun k hk => absurd hk (by simp), nonneg_of fun j _ => by show 0 ≤ rd (List.replicate n.toNat (0 : Int)) (j : Int); rw [hrow j]; exact Int.le_refl _⟩⟩ hc1 (by omega) (by show 0 + v.toNat ≤ 1000; omega)
  exact ⟨h.1, by have := h.2.2; simp at this; omega⟩
end
end Go.Proofs.Ytpdnabhpkdchjaa.P
namespace Go.Proofs.Ytpdnabhpkdchjaa.P
open Go.RowKit Go.Proofs.YtpdnabhpkdchjaaW.PrintWords Go.Proofs.YtpdnabhpkdchjaaW.PrintLast Go.Proofs.YtpdnabhpkdchjaaW.PrintMore
set_option linter.unusedVariables false
set_option linter.unusedSimpArgs false
def gapRow (ss : List S50) (t : List Int) (i : Int) : Nat → List S138
  | 0 => []
  | j + 1 => gapRow ss t i j ++ (if ((rd_T50 ss (j : Int)).f0 == 0) = true ∧ (rd t (j : Int) != 0) = true then [⟨i, (j : Int)⟩] else [])
def gapTo (rs : List S48) (tr : List (List Int)) : Nat → List S138
  | 0 => []
  | i + 1 => gapTo rs tr i ++ gapRow (rd_T48 rs (i : Int)).f1.f1 (rd_L12 tr (i : Int)) (i : Int) (rd_T48 rs (i : Int)).f1.f1.length
def gaps (n : Int) (l : List S88) (es : List S56) : List S138 := gapTo (run n l es) (truth n l es) (run n l es).length
theorem gapRow_len (ss : List S50) (t : List Int) (i : Int) (j : Nat) : (gapRow ss t i j).length ≤ j := by
  induction j with
  | zero => simp [gapRow]
  | succ j ih =>
    rw [gapRow, List.length_append]
    split
    · simp; omega
    · simp; omega
theorem gapTo_len {rs : List S48} {tr : List (List Int)} (h : ∀ i : Nat, i < rs.length → (rd_T48 rs (i : Int)).f1.f1.length ≤ 60) (i : Nat) (hi : i ≤ rs.length) : (gapTo rs tr i).length ≤ i * 60 := by
  induction i with
  | zero => simp [gapTo]
  | succ i ih =>
    rw [gapTo, List.length_append]
    have h1 := gapRow_len (rd_T48 rs (i : Int)).f1.f1 (rd_L12 tr (i : Int)) (i : Int) (rd_T48 rs (i : Int)).f1.f1.length
    have h2 := h i (by omega)
    have h3 := ih (by omega)
    omega
theorem rd_runTo (n : Int) (l : List S88) (es : List S56) (m i : Nat) (h : i < m) : rd_T48 (runTo n l es m) (i : Int) = runStep n l (stAt n l es i) (rd_T56 es (i : Int)) := by
  simp [rd_T48, runTo, h]
theorem gaps_dims (n : Int) (l : List S88) (es : List S56) : (truth n l es).length = (run n l es).length ∧ (run n l es).length ≤ 2000 ∧ ∀ i : Nat, i < (run n l es).length → (rd_L12 (truth n l es) (i : Int)).length = (rd_T48 (run n l es) (i : Int)).f1.f1.length ∧ (rd_T48 (run n l es) (i : Int)).f1.f1.length ≤ 60 := by
  by_cases h : layoutOk n l = 0 ∧ es.length ≤ 2000
  · have hn := lay_n h.1
    have hr : run n l es = runTo n l es es.length := by rw [run, if_pos h]
    rw [hr]
    refine ⟨by rw [truth_len h.1 h.2, runTo_length], by rw [runTo_length]; exact h.2, ?_⟩
    intro i hi
    rw [runTo_length] at hi
    rw [truth_rd h.1 h.2 i hi, truthAt_length, rd_runTo n l es _ i hi, (runStep_len n l _ _).1, (stAt_len n l es i).1]
    exact ⟨rfl, by omega⟩
  · have hr : run n l es = [] := by rw [run, if_neg h]
    have ht : truth n l es = [] := by rw [truth, if_neg h]
    rw [hr, ht]
    exact ⟨rfl, by simp, fun i hi => absurd hi (by simp)⟩
end Go.Proofs.Ytpdnabhpkdchjaa.P
namespace Go.Proofs.Ytpdnabhpkdchjaa.P
open Go.RowKit Go.Proofs.YtpdnabhpkdchjaaW.PrintWords Go.Proofs.YtpdnabhpkdchjaaW.PrintLast Go.Proofs.YtpdnabhpkdchjaaW.PrintMore
set_option linter.unusedVariables false
set_option linter.unusedSimpArgs false
section
variable {n : Int} {l : List S88} {es : List S56}
def midAt (l : List S88) (op of dir : Int) (j : Nat) (x : S50) : S50 :=
  let c := rd_T88 l of
  let f := if dir = -1 then c.f1 else c.f0
  let t := if dir = -1 then c.f0 else c.f1
  if op = 1 then (if f = (j : Int) then countS x (-1) else if t = (j : Int) then countS x 1 else x)
  else if op = 2 then (if t = (j : Int) then countS x 1 else x)
  else if op = 3 then (if c.f0 = (j : Int) ∨ c.f1 = (j : Int) then loseS x else x)
  else if op = 5 then (if of = (j : Int) then ⟨0, 0, false, true, 0⟩ else x) else x
theorem mid_get (ss : List S50) (op of dir : Int) (hne : op = 1 ∨ op = 3 → (rd_T88 l of).f0 ≠ (rd_T88 l of).f1) (h0 : 0 ≤ of) (j : Nat) (hj : j < ss.length) : rd_T50 (midSecs l ss op of dir) (j : Int) = midAt l op of dir j (rd_T50 ss (j : Int)) := by
  unfold midSecs midAt
  simp only []
  by_cases h1 : op = 1
  · have hn := hne (.inl h1)
    rw [if_pos h1, if_pos h1, addS_get _ _ _ j (by rw [addS_length]; exact hj), addS_get _ _ _ j hj]
    by_cases hd : dir = -1
    · simp only [if_pos hd]
      by_cases e1 : (rd_T88 l of).f1 = (j : Int)
      · rw [if_pos e1, if_pos e1, if_neg (by omega)]
      · rw [if_neg e1, if_neg e1]
    · simp only [if_neg hd]
      by_cases e1 : (rd_T88 l of).f0 = (j : Int)
      · rw [if_pos e1, if_pos e1, if_neg (by omega)]
      · rw [if_neg e1, if_neg e1]
  · rw [if_neg h1, if_neg h1]
    by_cases h2 : op = 2
    · rw [if_pos h2, if_pos h2, addS_get _ _ _ j hj]
    · rw [if_neg h2, if_neg h2]
      by_cases h3 : op = 3
      · have hn := hne (.inr h3)
        rw [if_pos h3, if_pos h3, loseAt_get _ _ j (by rw [loseAt_length]; exact hj), loseAt_get _ _ j hj]
        by_cases e1 : (rd_T88 l of).f1 = (j : Int)
        · rw [if_pos e1, if_neg (by omega), if_pos (.inr e1)]
        · rw [if_neg e1]
          by_cases e0 : (rd_T88 l of).f0 = (j : Int)
          · rw [if_pos e0, if_pos (.inl e0)]
          · rw [if_neg e0, if_neg (by omega)]
      · rw [if_neg h3, if_neg h3]
        by_cases h5 : op = 5
        · rw [if_pos h5, if_pos h5]
          obtain ⟨a, rfl⟩ := Int.eq_ofNat_of_zero_le h0
          by_cases e : a = j
          · subst e; simp [rd_T50, hj]
          · rw [if_neg (by omega)]; simp [rd_T50, List.getElem?_set_ne e]
        · rw [if_neg h5, if_neg h5]
theorem ev_cases {op of dir : Int} (h : eventOk n l op of dir = true) :
    ((op = 1 ∨ op = 2) ∧ 0 ≤ of ∧ of < (l.length : Int) ∧ (dir = 1 ∨ dir = -1)) ∨ ((op = 3 ∨ op = 4) ∧ 0 ≤ of ∧ of < (l.length : Int)) ∨ (op = 5 ∧ 0 ≤ of ∧ of < n) := by
  unfold eventOk at h
  split at h
  · split at h
    · rename_i h1
      simp at h
      exact .inl ⟨h1, h.1.1, h.1.2, h.2⟩
    · split at h
      · rename_i h1
        simp at h
        exact .inr (.inl ⟨h1, h.1.1, h.1.2⟩)
      · split at h
        · rename_i h1
          simp at h
          exact .inr (.inr ⟨h1, h.1.1, h.1.2⟩)
        · cases h
  · cases h
theorem step_get {s : S46} {e : S56} (hl : layoutOk n l = 0) (hok : eventOk n l e.f0 e.f1 e.f2 = true) (hc : doCode l s.f1 s.f2 e.f0 e.f1 = 0) (j : Nat) (hj : j < s.f1.length) :
    rd_T50 (runStep n l s e).f1.f1 (j : Int) = tellS l (midDead s.f2 e.f0 e.f1) j (midAt l e.f0 e.f1 e.f2 j (rd_T50 s.f1 (j : Int))) := by
  have h0 : 0 ≤ e.f1 ∧ (e.f0 = 1 ∨ e.f0 = 3 → (rd_T88 l e.f1).f0 ≠ (rd_T88 l e.f1).f1) := by
    rcases ev_cases hok with ⟨ho, h0, h1, _⟩ | ⟨ho, h0, h1⟩ | ⟨ho, h0, h1⟩
    · exact ⟨h0, fun _ => (lay_rd hl _ h0 h1).2.2.2.2⟩
    · exact ⟨h0, fun _ => (lay_rd hl _ h0 h1).2.2.2.2⟩
    · exact ⟨h0, fun h => by omega⟩
  unfold runStep
  rw [if_pos hok]
  show rd_T50 (doSecs l s.f1 s.f2 e.f0 e.f1 e.f2) (j : Int) = _
  unfold doSecs
  rw [if_pos hc, retold_get _ _ _ j (by rw [midSecs_length]; exact hj), mid_get _ _ _ _ h0.2 h0.1 j hj]
theorem step_not {s : S46} {e : S56} (hok : eventOk n l e.f0 e.f1 e.f2 = true) (hc : doCode l s.f1 s.f2 e.f0 e.f1 ≠ 0) : (runStep n l s e).f1.f1 = s.f1 ∧ (runStep n l s e).f1.f2 = s.f2 := by
  unfold runStep
  rw [if_pos hok]
  show doSecs l s.f1 s.f2 e.f0 e.f1 e.f2 = s.f1 ∧ doDead l s.f1 s.f2 e.f0 e.f1 = s.f2
  unfold doSecs doDead
  rw [if_neg hc, if_neg hc]
  exact ⟨rfl, rfl⟩
theorem dead_hits {dd : List Bool} {k : Int} {j : Nat} (h0 : 0 ≤ k) (h1 : k < (l.length : Int)) (hd : rdOf false dd k = true) (hj : hits (j : Int) (rd_T88 l k) = true) : deadAt l dd (j : Int) = true := by
  obtain ⟨a, rfl⟩ := Int.eq_ofNat_of_zero_le h0
  have key : ∀ d i : Nat, i ≤ a → a < i + d → deadFrom l dd (j : Int) d i = true := by
    intro d
    induction d with
    | zero => intro i h2 h3; omega
    | succ d ih =>
      intro i h2 h3
      unfold deadFrom
      by_cases e : i = a
      · subst e; rw [hd, hj]; rfl
      · rw [ih (i + 1) (by omega) (by omega), Bool.or_true]
  exact key _ 0 (Nat.zero_le _) (by omega)
theorem tstep_pass {row : List Int} {e : S56} (hok : eventOk n l e.f0 e.f1 e.f2 = true) (h1 : e.f0 = 1) : tstep n l row e = axle (rd_T88 l e.f1) e.f2 row := by
  unfold tstep isPass
  rw [hok, decide_eq_true h1]
  rfl
theorem tstep_other {row : List Int} {e : S56} (h1 : e.f0 ≠ 1) : tstep n l row e = row := by
  unfold tstep isPass
  rw [decide_eq_false h1, Bool.and_false]
  rfl
structure SafeI (s : S46) (row : List Int) (i : Nat) : Prop where
  cnt : ∀ j : Nat, j < s.f1.length → (rd_T50 s.f1 (j : Int)).f2 = false → rd row (j : Int) ≤ (rd_T50 s.f1 (j : Int)).f1
  bd : ∀ j : Nat, -(i : Int) ≤ (rd_T50 s.f1 (j : Int)).f1 ∧ (rd_T50 s.f1 (j : Int)).f1 ≤ (i : Int)
  rb : ∀ j : Nat, -(i : Int) ≤ rd row (j : Int) ∧ rd row (j : Int) ≤ (i : Int)
theorem cnt_id {x : S50} {b : Int} {i : Nat} (hi : i ≤ 2000) (hb : b = 1 ∨ b = -1) (h : -(i : Int) ≤ x.f1 ∧ x.f1 ≤ (i : Int)) : cntN x b = x.f1 + b := by
  have : wrap64 (x.f1 + b) = x.f1 + b := wrap_id (by omega) (by omega)
  unfold cntN
  rw [this, if_pos (by omega)]
theorem rd50_out (ss : List S50) (j : Nat) (h : ss.length ≤ j) : rd_T50 ss (j : Int) = z50 := by
  simp only [rd_T50, Int.toNat_natCast, List.getD_eq_getElem?_getD]
  rw [List.getElem?_eq_none h]; rfl
theorem safe_step {s : S46} {row : List Int} {e : S56} {i : Nat} (hi : i < 2000) (hst : stateOk n l s.f0 s.f1 s.f2 = true) (hrow : row.length = n.toNat) (h : SafeI s row i) (hok : eventOk n l e.f0 e.f1 e.f2 = true) (h5 : e.f0 = 5 → rd row e.f1 = 0) :
    SafeI (runStep n l s e).f1 (tstep n l row e) (i + 1) := by
  obtain ⟨hl, -, hsn, hdl, hsec⟩ := stateOk_of hst
  have hn := lay_n hl
  have hlen := (runStep_len n l s e).1
  have hrb : ∀ j : Nat, -1000000 ≤ rd row (j : Int) ∧ rd row (j : Int) ≤ 1000000 := fun j => by have := h.rb j; omega
  have hdead : ∀ j : Nat, j < s.f1.length → deadAt l s.f2 (j : Int) = true → (rd_T50 s.f1 (j : Int)).f2 = true := fun j hj hd => ((fine_iff _ _ _ _).1 ((ok_iff _ _ _ _).1 (hsec j hj)).2).2.1 (.inr hd)
  have hrow' : ∀ j : Nat, rd (tstep n l row e) (j : Int) = if e.f0 = 1 then mvAt (if e.f2 < 0 then (rd_T88 l e.f1).f1 else (rd_T88 l e.f1).f0) (if e.f2 < 0 then (rd_T88 l e.f1).f0 else (rd_T88 l e.f1).f1) j (rd row (j : Int)) else rd row (j : Int) := by
    intro j
    by_cases h1 : e.f0 = 1
    · rw [if_pos h1, tstep_pass hok h1]
      rcases ev_cases hok with ⟨ho, h0, h2, hd⟩ | ⟨ho, _⟩ | ⟨ho, _⟩
      · have hx := lay_rd hl _ h0 h2
        exact axle_rd _ _ _ hd (by rw [hrow]; omega) (by rw [hrow]; omega) hx.2.2.2.2 hrb hx.1 hx.2.2.1 j
      · omega
      · omega
    · rw [if_neg h1, tstep_other h1]
  have hmvb : ∀ (f t : Int) (j : Nat), -((i : Int) + 1) ≤ mvAt f t j (rd row (j : Int)) ∧ mvAt f t j (rd row (j : Int)) ≤ (i : Int) + 1 := fun f t j => by
    have := h.rb j
    unfold mvAt
    split
    · omega
    · split <;> omega
  have hrb' : ∀ j : Nat, -((i + 1 : Nat) : Int) ≤ rd (tstep n l row e) (j : Int) ∧ rd (tstep n l row e) (j : Int) ≤ ((i + 1 : Nat) : Int) := fun j => by
    rw [hrow' j]
    split
    · have := hmvb (if e.f2 < 0 then (rd_T88 l e.f1).f1 else (rd_T88 l e.f1).f0) (if e.f2 < 0 then (rd_T88 l e.f1).f0 else (rd_T88 l e.f1).f1) j
      omega
    · have := h.rb j
      omega
  by_cases hc : doCode l s.f1 s.f2 e.f0 e.f1 = 0
  · have hg := step_get hl hok hc
    have key : ∀ j : Nat, j < s.f1.length → (-((i + 1 : Nat) : Int) ≤ (midAt l e.f0 e.f1 e.f2 j (rd_T50 s.f1 (j : Int))).f1 ∧ (midAt l e.f0 e.f1 e.f2 j (rd_T50 s.f1 (j : Int))).f1 ≤ ((i + 1 : Nat) : Int)) ∧
        ((midAt l e.f0 e.f1 e.f2 j (rd_T50 s.f1 (j : Int))).f2 = false → rd (tstep n l row e) (j : Int) ≤ (midAt l e.f0 e.f1 e.f2 j (rd_T50 s.f1 (j : Int))).f1) := by
      intro j hj
      have hb := h.bd j
      have hcn := h.cnt j hj
      have c1 := cnt_id (x := rd_T50 s.f1 (j : Int)) (b := 1) (i := i) (by omega) (.inl rfl) hb
      have c2 := cnt_id (x := rd_T50 s.f1 (j : Int)) (b := -1) (i := i) (by omega) (.inr rfl) hb
      rw [hrow' j]
      generalize rd_T50 s.f1 (j : Int) = x at *
      unfold midAt
      simp only []
      by_cases o1 : e.f0 = 1
      · rw [if_pos o1, if_pos o1]
        have hd : (if e.f2 = -1 then (rd_T88 l e.f1).f1 else (rd_T88 l e.f1).f0) = (if e.f2 < 0 then (rd_T88 l e.f1).f1 else (rd_T88 l e.f1).f0) ∧ (if e.f2 = -1 then (rd_T88 l e.f1).f0 else (rd_T88 l e.f1).f1) = (if e.f2 < 0 then (rd_T88 l e.f1).f0 else (rd_T88 l e.f1).f1) := by
          rcases ev_cases hok with ⟨_, _, _, hd⟩ | ⟨ho, _⟩ | ⟨ho, _⟩
          · rcases hd with hd | hd <;> simp [hd]
          · omega
          · omega
        rw [hd.1, hd.2]
        generalize (if e.f2 < 0 then (rd_T88 l e.f1).f1 else (rd_T88 l e.f1).f0) = f
        generalize (if e.f2 < 0 then (rd_T88 l e.f1).f0 else (rd_T88 l e.f1).f1) = t
        unfold mvAt
        by_cases ef : f = (j : Int)
        · simp only [if_pos ef, countS, c2]
          refine ⟨by omega, fun q => ?_⟩
          rw [Bool.or_eq_false_iff] at q
          have := hcn q.1
          omega
        · simp only [if_neg ef]
          by_cases et : t = (j : Int)
          · simp only [if_pos et, countS, c1]
            refine ⟨by omega, fun q => ?_⟩
            rw [Bool.or_eq_false_iff] at q
            have := hcn q.1
            omega
          · simp only [if_neg et]
            exact ⟨by omega, hcn⟩
      · rw [if_neg o1, if_neg o1]
        by_cases o2 : e.f0 = 2
        · rw [if_pos o2]
          by_cases et : (if e.f2 = -1 then (rd_T88 l e.f1).f0 else (rd_T88 l e.f1).f1) = (j : Int)
          · simp only [if_pos et, countS, c1]
            refine ⟨by omega, fun q => ?_⟩
            rw [Bool.or_eq_false_iff] at q
            have := hcn q.1
            omega
          · simp only [if_neg et]
            exact ⟨by omega, hcn⟩
        · rw [if_neg o2]
          by_cases o3 : e.f0 = 3
          · rw [if_pos o3]
            split
            · exact ⟨by show _ ≤ x.f1 ∧ x.f1 ≤ _; omega, fun q => by cases q⟩
            · exact ⟨by omega, hcn⟩
          · rw [if_neg o3]
            by_cases o5 : e.f0 = 5
            · rw [if_pos o5]
              split
              · rename_i eo
                refine ⟨by show _ ≤ (0 : Int) ∧ (0 : Int) ≤ _; omega, fun _ => ?_⟩
                have := h5 o5
                rw [eo] at this
                show rd row (j : Int) ≤ 0
                omega
              · exact ⟨by omega, hcn⟩
            · rw [if_neg o5]
              exact ⟨by omega, hcn⟩
    refine ⟨fun j hj => ?_, fun j => ?_, hrb'⟩
    · rw [hlen] at hj
      rw [hg j hj]
      exact (key j hj).2
    · by_cases hj : j < s.f1.length
      · rw [hg j hj]
        exact (key j hj).1
      · rw [rd50_out _ j (by rw [hlen]; omega)]
        show -((i + 1 : Nat) : Int) ≤ 0 ∧ (0 : Int) ≤ ((i + 1 : Nat) : Int)
        omega
  · obtain ⟨e1, e2⟩ := step_not hok hc
    refine ⟨fun j hj hf => ?_, fun j => ?_, hrb'⟩
    · rw [e1] at hj hf ⊢
      rw [hrow' j]
      by_cases h1 : e.f0 = 1
      · rw [if_pos h1]
        have hdd : rdOf false s.f2 e.f1 = true := by
          unfold doCode at hc
          rw [if_pos (.inl h1)] at hc
          cases hx : rdOf false s.f2 e.f1 with
          | true => rfl
          | false => rw [hx] at hc; simp at hc
        rcases ev_cases hok with ⟨_, h0, h2, _⟩ | ⟨ho, _⟩ | ⟨ho, _⟩
        · have hno : hits (j : Int) (rd_T88 l e.f1) = false := by
            cases hx : hits (j : Int) (rd_T88 l e.f1) with
            | false => rfl
            | true => rw [hdead j hj (dead_hits h0 h2 hdd hx)] at hf; cases hf
          simp only [hits, Bool.or_eq_false_iff, decide_eq_false_iff_not] at hno
          have : mvAt (if e.f2 < 0 then (rd_T88 l e.f1).f1 else (rd_T88 l e.f1).f0) (if e.f2 < 0 then (rd_T88 l e.f1).f0 else (rd_T88 l e.f1).f1) j (rd row (j : Int)) = rd row (j : Int) := by
            unfold mvAt
            by_cases hd : e.f2 < 0
            · simp only [if_pos hd, if_neg hno.1, if_neg hno.2]
            · simp only [if_neg hd, if_neg hno.1, if_neg hno.2]
          rw [this]
          exact h.cnt j hj hf
        · omega
        · omega
      · rw [if_neg h1]
        exact h.cnt j hj hf
    · rw [e1]
      have := h.bd j
      omega
theorem safe_at (hl : layoutOk n l = 0) (he : es.length ≤ 2000) (hok : ∀ e ∈ es, eventOk n l e.f0 e.f1 e.f2 = true) (h : HonP n l es) : ∀ k : Nat, k ≤ es.length → SafeI (stAt n l es k) (truthAt n l es k) k := by
  intro k
  induction k with
  | zero =>
    intro _
    have hz : ∀ j : Nat, rd_T50 (stAt n l es 0).f1 (j : Int) = z50 := fun j => by
      rw [stAt_zero]
      show rd_T50 (List.replicate n.toNat z50) (j : Int) = z50
      simp only [rd_T50, List.getD_eq_getElem?_getD, List.getElem?_replicate]
      split <;> rfl
    have hr : ∀ j : Nat, rd (truthAt n l es 0) (j : Int) = 0 := fun j => by
      rw [truthAt, List.take_zero, List.foldl_nil, row0, rd]
      simp only [List.getD_eq_getElem?_getD, List.getElem?_replicate]
      split <;> rfl
    exact ⟨fun j _ _ => by rw [hr, hz]; exact Int.le_refl _, fun j => by rw [hz]; exact ⟨Int.le_refl _, Int.le_refl _⟩, fun j => by rw [hr]; exact ⟨Int.le_refl _, Int.le_refl _⟩⟩
  | succ k ih =>
    intro hk
    have hk' : k < es.length := by omega
    rw [stAt_succ n l es k hk', truthAt_succ hk', ← rd56 es k hk']
    exact safe_step (by omega) (stAt_ok hl es k) (truthAt_length _ _ _ _) (ih (by omega)) (by rw [rd56 es k hk']; exact hok _ (List.getElem_mem hk')) (h k hk').1
theorem safe_free (hl : layoutOk n l = 0) (he : es.length ≤ 2000) (hok : ∀ e ∈ es, eventOk n l e.f0 e.f1 e.f2 = true) (h : HonP n l es) (i j : Nat) (hi : i < es.length) (hj : (j : Int) < n) (hf : (rd_T50 (stAt n l es (i + 1)).f1 (j : Int)).f0 = 0) : rd (truthAt n l es (i + 1)) (j : Int) = 0 := by
  have hs := safe_at hl he hok h (i + 1) (by omega)
  have hst := stAt_ok hl es (i + 1)
  obtain ⟨-, -, hsn, -, hsec⟩ := stateOk_of hst
  have hj' : j < (stAt n l es (i + 1)).f1.length := by omega
  have ht := secOk_told (hsec j hj')
  rw [hf] at ht
  have hx : (rd_T50 (stAt n l es (i + 1)).f1 (j : Int)).f2 = false ∧ (rd_T50 (stAt n l es (i + 1)).f1 (j : Int)).f1 = 0 := by
    generalize rd_T50 (stAt n l es (i + 1)).f1 (j : Int) = x at ht
    unfold toldC at ht
    split at ht
    · cases ht
    · split at ht
      · cases ht
      · rename_i h2
        split at ht
        · cases ht
        · rename_i h3
          have e3 : x.f3 = false := by simpa using h3
          refine ⟨?_, ?_⟩
          · cases hq : x.f2 with
            | false => rfl
            | true => exact absurd (.inl hq) h2
          · by_cases h0 : x.f1 = 0
            · exact h0
            · exact absurd (.inr ⟨h0, e3⟩) h2
  have h1 := hs.cnt j hj' hx.1
  rw [hx.2] at h1
  have h2 := rd_all (h i hi).2 j (by rw [truthAt_length]; omega)
  omega
theorem gaps_none (hl : layoutOk n l = 0) (he : es.length ≤ 2000) (hok : ∀ e ∈ es, eventOk n l e.f0 e.f1 e.f2 = true) (h : HonP n l es) : gaps n l es = [] := by
  have hr : run n l es = runTo n l es es.length := by rw [run, if_pos ⟨hl, he⟩]
  have key : ∀ i : Nat, i ≤ es.length → gapTo (runTo n l es es.length) (truth n l es) i = [] := by
    intro i
    induction i with
    | zero => intro _; rfl
    | succ i ih =>
      intro hi
      rw [gapTo, ih (by omega), List.nil_append, rd_runTo n l es _ i (by omega), truth_rd hl he i (by omega)]
      have hsec := fun j hj hf => safe_free hl he hok h i j (by omega) hj hf
      rw [stAt_succ n l es i (by omega)] at hsec
      have hlen := (runStep_len n l (stAt n l es i) (rd_T56 es (i : Int))).1
      have hl2 := (stAt_len n l es i).1
      have hn := lay_n hl
      generalize (runStep n l (stAt n l es i) (rd_T56 es (i : Int))).f1.f1 = ss at hsec hlen ⊢
      have row : ∀ j : Nat, j ≤ ss.length → gapRow ss (truthAt n l es (i + 1)) (i : Int) j = [] := by
        intro j
        induction j with
        | zero => intro _; rfl
        | succ j ih =>
          intro hj
          rw [gapRow, ih (by omega), List.nil_append, if_neg]
          rintro ⟨h1, h2⟩
          have h3 := hsec j (by omega) (by simpa using h1)
          rw [h3] at h2
          exact absurd h2 (by decide)
      exact row ss.length (Nat.le_refl _)
  rw [gaps, hr, runTo_length]
  exact key _ (Nat.le_refl _)
end
end Go.Proofs.Ytpdnabhpkdchjaa.P
namespace Go.Proofs.Ytpdnabhpkdchjaa.P
open Go.RowKit Go.Proofs.YtpdnabhpkdchjaaW.PrintWords Go.Proofs.YtpdnabhpkdchjaaW.PrintLast Go.Proofs.YtpdnabhpkdchjaaW.PrintMore
attribute [local go_sem ↓] Go.wp_at_zero Go.wp_at_succ
set_option linter.unusedVariables false
set_option linter.unusedSimpArgs false
theorem ret_b {a b : Bool} (h : a = b) : Ending.returned (.bool a) = .returned (.bool b) := by rw [h]
theorem min_dec (row : List Int) (h0 : 0 < row.length) : (!(nonneg row)) = decide (minL (row.drop 1) (rd row 0) < 0) := by
  have hm := min_neg row h0
  cases hn : nonneg row with
  | false => rw [decide_eq_true (hm.2 hn)]; rfl
  | true => rw [decide_eq_false (fun c => by rw [hm.1 c] at hn; cases hn)]; rfl
theorem min_at {A : Option Addr} {c : Nat} {row : List Int} {w : World} {m : Int} (hm : minL (row.drop 1) (rd row 0) = m) (hr : Kd.C (Kd.int .i64) w A row.length row) (hc : row.length ≤ c) (h0 : 0 < row.length) (hl : row.length < 9223372036854775807) :
    Calls Try.prog 106 #[.slice A row.length c] w fun e w' => e = .returned (.int .i64 m) ∧ Below w.heap.size w w' := by
  obtain ⟨k, h⟩ := (min_ev row h0 hl).rounds
  rw [← hm]
  exact slices_Min_int_int.calls k A c row _ w hr hc h
def ho_T7 : Bool × List (List Nat × List Nat) := (true, [([], []), ([], []), ([0, 1], [0, 1]), ([2], [2]), ([3, 2], [3]), ([4], [4]), ([5, 4], [4, 5]), ([6, 4], [4, 6]), ([7, 4, 4], [4, 7]), ([8], [8]), ([9, 8], [8, 9]), ([8, 10, 4], [4, 8, 10]), ([11, 8, 4], [4, 11]), ([12], [12]), ([12], [12]), ([14, 12], [12, 14]), ([13, 15, 12], [12, 13, 15]), ([16, 12], [12, 16]), ([12], [12]), ([18, 12], [12, 18]), ([17, 19, 12], [12, 17, 19]), ([20, 12], [12, 20]), ([21, 12], [12, 21]), ([12, 22, 4], [4, 12, 22]), ([4, 23], [4, 23]), ([24, 12], [24]), ([25], [25]), ([25], [25]), ([26, 27, 25], [25, 26, 27]), ([28, 25], [25, 28]), ([29, 25, 25], [25, 29]), ([30, 25], [25, 30]), ([25, 31], [25, 31])])
def ho_B7 : List Nat := [0, 0, 3, 7, 15, 31, 63, 127, 255, 511, 1023, 2047, 4095, 8191, 8191, 24575, 65535, 131071, 8191, 270335, 1048575, 2097151, 4194303, 8388607, 16777215, 33554431, 67108863, 67108863, 268435455, 536870911, 1073741823, 2147483647, 4294967295]
theorem ho_tab7 : rtab .any (opsOf Try.f51 7) = ho_T7 := by kernel_rfl
theorem ho_bits7 : waitsOk ho_T7.2 ho_B7 = true := by kernel_rfl
structure HoSt (w0 w : World) (g : Nat) (lv : List Value) (v : Value) (t : List (List Int)) : Prop where
  hl : w.heap[g]? = some (.cells lv.toArray 30 (0, 0))
  HT : Kd.S (Kd.slice 3 (Kd.int .i64)) 59 w w0.heap.size (fun _ => True) v t
  hB : Below w0.heap.size w0 w
  gle : w0.heap.size ≤ g
theorem HoSt.up {w0 w w' : World} {g : Nat} {lv : List Value} {v : Value} {t : List (List Int)} (h : HoSt w0 w g lv v t) (hb : Below w.heap.size w w') : HoSt w0 w' g lv v t where
  hl := blk_below h.hl hb
  HT := Kd.S_below h.HT hb
  hB := below_step h.hB hb
  gle := h.gle
set_option maxHeartbeats 16000000 in
set_option maxRecDepth 100000 in
theorem honest_is (n : Int) (A : Option Addr) (c : Nat) (l : List S88) (A1 : Option Addr) (c1 : Nat) (es : List S56) (w : World) (hr : Kd.C k88 w A l.length l) (hc : l.length ≤ c) (hr1 : Kd.C k56 w A1 es.length es) (hc1 : es.length ≤ c1) :
    Calls Try.prog 51 #[.agg #[.int .i64 n, .slice A l.length c], .slice A1 es.length c1] w fun e w' => e = .returned (.bool (honest n l es)) ∧ Below w.heap.size w w' := by
  have HR := Aside0.mk hr
  have HC := Aside0.mk hc
  have HR1 := Aside0.mk hr1
  have HC1 := Aside0.mk hc1
  clear hr hc hr1 hc1
  by_cases hl : layoutOk n l = 0
  · by_cases he : es.length ≤ 2000
    · have b0 : (layoutOk n l != 0) = false := bne_eq_false_iff_eq.mpr hl
      have b1 : decide ((es.length : Int) > 2000) = false := decide_eq_false (by omega)
      have HL := Aside0.mk hl
      have HE := Aside0.mk he
      clear hl he
      go_enter Try.func51, Try.ntmps51
      go_wp2_with (first | ((with_reducible refine gate_dst (N := 2) rfl ?_); refine box_event ?hg (N := 2) ?hd (cs := #[.int .i64 n, .slice A l.length c]) (t := 30) ?hr ?_; (case hd => rfl); (case hg => rfl); (case hr => first | (go_simp; done) | (go_simp; rfl)); intro gl el wl kl bl; have hcz0 := (blk_cell kl 0).trans (show (#[Value.int .i64 n, .slice A l.length c])[0]? = _ from rfl); have hcz1 := (blk_cell kl 1).trans (show (#[Value.int .i64 n, .slice A l.length c])[1]? = _ from rfl); have KL := Aside0.mk kl; have BL := Aside0.mk bl; have GL := Aside0.mk (show w.heap.size ≤ gl by rw [el]; exact Nat.le_refl _); clear kl bl el) | (go_at_call 25; refine (lay_is (Kd.C_below HR.out BL.out) HC.out).mono ?_; rintro e w1 ⟨rfl, hb⟩; have KL1 := Aside0.mk (blk_below KL.out hb); have BL1 := Aside0.mk (below_step BL.out hb); clear hb; have hc10 := (blk_cell KL1.out 0).trans (show (#[Value.int .i64 n, .slice A l.length c])[0]? = _ from rfl); have hc11 := (blk_cell KL1.out 1).trans (show (#[Value.int .i64 n, .slice A l.length c])[1]? = _ from rfl)) | (go_at_call 54; refine (truth_is (Kd.C_below HR.out BL1.out) HC.out (Kd.C_below HR1.out BL1.out) HC1.out).mono ?_; rintro e w2 ⟨vt, rfl, ht, hb⟩; have ST := Aside0.mk (show HoSt w w2 gl _ vt _ from ⟨blk_below KL1.out hb, Kd.S_lower ht BL1.out.size, below_step BL1.out hb, GL.out⟩); clear hb ht))
      clear hcz0 hcz1 hc10 hc11 KL BL KL1 BL1
      go_loopg [21] es.length (fun kq v21 w' => ∃ j : Nat, v21 = .int .i64 j ∧ Aside0 (j + kq = es.length) ∧ Aside0 (honestFrom n l es es.length 0 = honestFrom n l es kq j) ∧ Aside0 (HoSt w w' gl [.int .i64 n, .slice A l.length c] vt (truth n l es)))
      case atStart => exact ⟨0, rfl, ⟨by omega⟩, ⟨rfl⟩, ST⟩
      case round =>
        clear ST
        obtain ⟨j, rfl, HJ, HF, ST⟩ := hrel
        by_cases hlt : j < es.length
        · cases gk with
          | zero => exact absurd HJ.out (by omega)
          | succ gk =>
          have hlt' : decide ((j : Int) < (es.length : Int)) = true := decide_eq_true (by omega)
          have q0 : (0 : Int) ≤ (j : Int) := by omega
          have q1 : (j : Int) < (es.length : Int) := by omega
          have hn := lay_n HL.out
          have htl := truth_len HL.out HE.out
          obtain ⟨ad, e, x0, x1, x2⟩ := at_T56 HR1.out (j : Int) q0 q1
          subst e
          replace x0 := pw_cell_below ST.out.hB x0
          replace x1 := pw_cell_below ST.out.hB x1
          replace x2 := pw_cell_below ST.out.hB x2
          obtain ⟨At, ct, et⟩ := Kd.S_slice ST.out.HT
          subst et
          obtain ⟨adt, Ar, cr, e, y0, lr, Cr⟩ := at_L12 (Kd.S_reads' ST.out.HT).2.2 (j : Int) q0 (by omega)
          subst e
          rw [truth_rd HL.out HE.out j hlt] at y0 lr Cr
          rw [Int.toNat_natCast] at x0 x1 x2 y0
          have CR := Aside0.mk Cr
          have LR := Aside0.mk lr
          have HN := Aside0.mk hn
          have HTL := Aside0.mk htl
          clear Cr lr hn htl
          generalize hx : rd_T56 es (j : Int) = x at x0 x1 x2
          have HX := Aside0.mk hx
          clear hx
          go_upto_region 7 with (first | ((with_reducible refine gate_dst (N := 7) rfl ?_); refine box_event ?hg (N := 7) ?hd (cs := #[.int .i64 0, .int .i64 0, .int .i64 0]) (t := 56) ?hr ?_; (case hd => rfl); (case hg => rfl); (case hr => first | (go_simp; done) | (go_simp; rfl)); intro ge ee we ke be; have KE := Aside0.mk ke; have EE := Aside0.mk ee; have z0 := blk_frozen ke 0; have z1 := blk_frozen ke 1; have z2 := blk_frozen ke 2; have c0_ := (blk_cell ke 0).trans (show (#[Value.int .i64 0, .int .i64 0, .int .i64 0])[0]? = _ from rfl); have c1_ := (blk_cell ke 1).trans (show (#[Value.int .i64 0, .int .i64 0, .int .i64 0])[1]? = _ from rfl); have c2_ := (blk_cell ke 2).trans (show (#[Value.int .i64 0, .int .i64 0, .int .i64 0])[2]? = _ from rfl); have SE := Aside0.mk (ST.out.up be); have BE := Aside0.mk be; clear be ke ee))
          have KX := Aside0.mk (blk_put (blk_put (blk_put KE.out 0 (.int .i64 x.f0) rfl) 1 (.int .i64 x.f1) rfl) 2 (.int .i64 x.f2) rfl)
          have BX := Aside0.mk (below_set (v := .int .i64 x.f2) (j := 2) (below_set (v := .int .i64 x.f1) (j := 1) (below_set (v := .int .i64 x.f0) (j := 0) BE.out (Nat.le_of_eq EE.out.symm)) (Nat.le_of_eq EE.out.symm)) (Nat.le_of_eq EE.out.symm))
          clear KE BE SE z0 z1 z2 c0_ c1_ c2_
          generalize (((we.setCell ⟨ge, 0, none⟩ (.int .i64 x.f0)).setCell ⟨ge, 1, none⟩ (.int .i64 x.f1)).setCell ⟨ge, 2, none⟩ (.int .i64 x.f2)) = w8 at KX BX ⊢
          go_cut [58] from 22 to 59 (fun v wx => v = .bool (!(honestAt n l es j)) ∧ Aside0 (Below wr.heap.size wr wx))
          case first =>
            have hcl0 : w8.cell? ⟨gl, 0, none⟩ = some (.int .i64 n) := (blk_cell (blk_below ST.out.hl BX.out) 0).trans rfl
            have hcl1 : w8.cell? ⟨gl, 1, none⟩ = some (.slice A l.length c) := (blk_cell (blk_below ST.out.hl BX.out) 1).trans rfl
            have hce0 : w8.cell? ⟨ge, 0, none⟩ = some (.int .i64 x.f0) := (blk_cell KX.out 0).trans rfl
            have hce1 : w8.cell? ⟨ge, 1, none⟩ = some (.int .i64 x.f1) := (blk_cell KX.out 1).trans rfl
            have hce2 : w8.cell? ⟨ge, 2, none⟩ = some (.int .i64 x.f2) := (blk_cell KX.out 2).trans rfl
            have hcy : w8.cell? (adt.add j) = some (.slice Ar (truthAt n l es (j + 1)).length cr) := pw_cell_below BX.out y0
            have BD := Aside0.mk (below_drew1 (below_step ST.out.hB BX.out))
            have BR := Aside0.mk (below_drew1 BX.out)
            clear x0 x1 x2 y0
            cases hok : eventOk n l x.f0 x.f1 x.f2 with
            | false =>
              have HO := Aside0.mk hok
              have HV := Aside0.mk (show (!(honestAt n l es j)) = true by rw [honestAt_not (by rw [HX.out]; exact HO.out)]; rfl)
              clear hok
              refine start_ (n := 33) (S := fun w' => w'.cell? ⟨gl, 0, none⟩ = some (.int .i64 n) ∧ w'.cell? ⟨gl, 1, none⟩ = some (.slice A l.length c) ∧ w'.cell? ⟨ge, 0, none⟩ = some (.int .i64 x.f0) ∧ w'.cell? ⟨ge, 1, none⟩ = some (.int .i64 x.f1) ∧ w'.cell? ⟨ge, 2, none⟩ = some (.int .i64 x.f2) ∧ w'.cell? (adt.add j) = some (.slice Ar (truthAt n l es (j + 1)).length cr)) (ds := []) #[false, false, false, false, false, false, false, false, false, false, false, false, false, false, false, false, false, false, false, false, false, false, false, false, false, false, false, false, false, false, false, false, false] (by kernel_rfl) rfl rfl ⟨hcl0, hcl1, hce0, hce1, hce2, hcy⟩ (fun hHeld => ?_); refine with_tabW ho_tab7 ho_bits7 (fun HT_ HW_ => ?_)
              refine take_ (i := 0) (N := some 26) (v := ?_) (a' := ?_) #[true, false, false, false, false, false, false, false, false, false, false, false, false, false, false, false, false, false, false, false, false, false, false, false, false, false, false, false, false, false, false, false, false] rfl rfl (take_ofW HT_.out HW_.out (by kernel_rfl)) (fun _ _ _ h => h) (Or.inl ⟨by rfl, ?_⟩) hHeld ?_ ?_
              rotate_left
              · rintro w' ⟨s0, s1, s2, s3, s4, s5⟩
                go_simp
                with_reducible rfl
              rotate_left
              · simp only [Act.put, List.setIfInBounds_toArray, List.set_cons_zero, List.set_cons_succ, i64_w, i32_w]
                rfl
              refine take_ (i := 1) (N := some 27) (v := ?_) (a' := ?_) #[true, true, false, false, false, false, false, false, false, false, false, false, false, false, false, false, false, false, false, false, false, false, false, false, false, false, false, false, false, false, false, false, false] rfl rfl (take_ofW HT_.out HW_.out (by kernel_rfl)) (fun _ _ _ h => h) (Or.inl ⟨by rfl, ?_⟩) hHeld ?_ ?_
              rotate_left
              · rintro w' ⟨s0, s1, s2, s3, s4, s5⟩
                go_simp
                with_reducible rfl
              rotate_left
              · simp only [Act.put, List.setIfInBounds_toArray, List.set_cons_zero, List.set_cons_succ, i64_w, i32_w]
                rfl
              refine one_ (i := 2) (N := some 28) #[true, true, true, false, false, false, false, false, false, false, false, false, false, false, false, false, false, false, false, false, false, false, false, false, false, false, false, false, false, false, false, false, false] rfl rfl (one_of HT_.out (by kernel_rfl)) (by decide) (fun K hK => ?_)
              refine goes_ Try.func36 (by kernel_rfl) rfl #[.agg #[.int .i64 n, .slice A l.length c], .agg #[.int .i64 x.f0, .int .i64 x.f1, .int .i64 x.f2]] (by rfl) rfl rfl (by (try simp only [List.map_toArray, List.map_cons, List.map_nil]); first | done | rfl | (simp only [List.length_drop, List.length_take]; rfl)) ?_
              with_reducible refine (ev_at x.f0 x.f1 x.f2 HO.out (Kd.C_below HR.out BD.out) HC.out).mono ?_; rintro e w9 ⟨rfl, hb⟩
              refine ⟨_, rfl, ?_⟩
              have BZ := Aside0.mk (below_step BR.out hb)
              refine hK.out _ _ ⟨pw_cell_below hb hHeld.1, pw_cell_below hb hHeld.2.1, pw_cell_below hb hHeld.2.2.1, pw_cell_below hb hHeld.2.2.2.1, pw_cell_below hb hHeld.2.2.2.2.1, pw_cell_below hb hHeld.2.2.2.2.2⟩ (fun hHeld => ?_)
              clear hK K
              refine norm_ (a' := ?_) ?_ ?_
              rotate_left
              · show Act.put _ (some 28) _ = _
                simp only [Act.put, List.setIfInBounds_toArray, List.set_cons_zero, List.set_cons_succ, i64_w, i32_w]
                rfl
              refine pure_ (i := 3) (N := some 29) (v := ?_) (a' := ?_) #[true, true, true, true, false, false, false, false, false, false, false, false, false, false, false, false, false, false, false, false, false, false, false, false, false, false, false, false, false, false, false, false, false] rfl rfl (any_of HT_.out (by kernel_rfl)) (fun _ _ _ h => h) (Or.inl ⟨by rfl, ?_⟩) ?_ ?_
              rotate_left
              · intro w'
                go_simp
                with_reducible rfl
              rotate_left
              · simp only [Act.put, List.setIfInBounds_toArray, List.set_cons_zero, List.set_cons_succ, i64_w, i32_w]
                rfl
              refine pure_ (i := 4) (N := some 30) (v := ?_) (a' := ?_) #[true, true, true, true, true, false, false, false, false, false, false, false, false, false, false, false, false, false, false, false, false, false, false, false, false, false, false, false, false, false, false, false, false] rfl rfl (any_of HT_.out (by kernel_rfl)) (fun _ _ _ h => h) (Or.inl ⟨by rfl, ?_⟩) ?_ ?_
              rotate_left
              · intro w'
                go_simp
                with_reducible rfl
              rotate_left
              · simp only [Act.put, List.setIfInBounds_toArray, List.set_cons_zero, List.set_cons_succ, i64_w, i32_w]
                rfl
              refine pure_ (i := 5) (N := some 31) (v := undef) (a' := ?_) #[true, true, true, true, true, true, false, false, false, false, false, false, false, false, false, false, false, false, false, false, false, false, false, false, false, false, false, false, false, false, false, false, false] rfl rfl (any_of HT_.out (by kernel_rfl)) (fun _ _ _ h => h) (Or.inr ⟨by rfl, rfl⟩) ?_ ?_
              rotate_left
              · simp only [Act.put, List.setIfInBounds_toArray, List.set_cons_zero, List.set_cons_succ, i64_w, i32_w]
                rfl
              refine pure_ (i := 6) (N := some 32) (v := undef) (a' := ?_) #[true, true, true, true, true, true, true, false, false, false, false, false, false, false, false, false, false, false, false, false, false, false, false, false, false, false, false, false, false, false, false, false, false] rfl rfl (any_of HT_.out (by kernel_rfl)) (fun _ _ _ h => h) (Or.inr ⟨by rfl, rfl⟩) ?_ ?_
              rotate_left
              · simp only [Act.put, List.setIfInBounds_toArray, List.set_cons_zero, List.set_cons_succ, i64_w, i32_w]
                rfl
              refine pure_ (i := 7) (N := some 33) (v := undef) (a' := ?_) #[true, true, true, true, true, true, true, true, false, false, false, false, false, false, false, false, false, false, false, false, false, false, false, false, false, false, false, false, false, false, false, false, false] rfl rfl (any_of HT_.out (by kernel_rfl)) (fun _ _ _ h => h) (Or.inr ⟨by rfl, rfl⟩) ?_ ?_
              rotate_left
              · simp only [Act.put, List.setIfInBounds_toArray, List.set_cons_zero, List.set_cons_succ, i64_w, i32_w]
                rfl
              refine pure_ (i := 8) (N := some 34) (v := undef) (a' := ?_) #[true, true, true, true, true, true, true, true, true, false, false, false, false, false, false, false, false, false, false, false, false, false, false, false, false, false, false, false, false, false, false, false, false] rfl rfl (any_of HT_.out (by kernel_rfl)) (fun _ _ _ h => h) (Or.inr ⟨by rfl, rfl⟩) ?_ ?_
              rotate_left
              · simp only [Act.put, List.setIfInBounds_toArray, List.set_cons_zero, List.set_cons_succ, i64_w, i32_w]
                rfl
              refine pure_ (i := 9) (N := some 35) (v := undef) (a' := ?_) #[true, true, true, true, true, true, true, true, true, true, false, false, false, false, false, false, false, false, false, false, false, false, false, false, false, false, false, false, false, false, false, false, false] rfl rfl (any_of HT_.out (by kernel_rfl)) (fun _ _ _ h => h) (Or.inr ⟨by rfl, rfl⟩) ?_ ?_
              rotate_left
              · simp only [Act.put, List.setIfInBounds_toArray, List.set_cons_zero, List.set_cons_succ, i64_w, i32_w]
                rfl
              refine pure_ (i := 10) (N := some 36) (v := undef) (a' := ?_) #[true, true, true, true, true, true, true, true, true, true, true, false, false, false, false, false, false, false, false, false, false, false, false, false, false, false, false, false, false, false, false, false, false] rfl rfl (any_of HT_.out (by kernel_rfl)) (fun _ _ _ h => h) (Or.inr ⟨by rfl, rfl⟩) ?_ ?_
              rotate_left
              · simp only [Act.put, List.setIfInBounds_toArray, List.set_cons_zero, List.set_cons_succ, i64_w, i32_w]
                rfl
              refine pure_ (i := 11) (N := some 37) (v := undef) (a' := ?_) #[true, true, true, true, true, true, true, true, true, true, true, true, false, false, false, false, false, false, false, false, false, false, false, false, false, false, false, false, false, false, false, false, false] rfl rfl (any_of HT_.out (by kernel_rfl)) (fun _ _ _ h => h) (Or.inr ⟨by rfl, rfl⟩) ?_ ?_
              rotate_left
              · simp only [Act.put, List.setIfInBounds_toArray, List.set_cons_zero, List.set_cons_succ, i64_w, i32_w]
                rfl
              refine pure_ (i := 12) (N := some 38) (v := undef) (a' := ?_) #[true, true, true, true, true, true, true, true, true, true, true, true, true, false, false, false, false, false, false, false, false, false, false, false, false, false, false, false, false, false, false, false, false] rfl rfl (any_of HT_.out (by kernel_rfl)) (fun _ _ _ h => h) (Or.inr ⟨by rfl, rfl⟩) ?_ ?_
              rotate_left
              · simp only [Act.put, List.setIfInBounds_toArray, List.set_cons_zero, List.set_cons_succ, i64_w, i32_w]
                rfl
              refine pure_ (i := 13) (N := some 39) (v := undef) (a' := ?_) #[true, true, true, true, true, true, true, true, true, true, true, true, true, true, false, false, false, false, false, false, false, false, false, false, false, false, false, false, false, false, false, false, false] rfl rfl (any_of HT_.out (by kernel_rfl)) (fun _ _ _ h => h) (Or.inr ⟨by rfl, rfl⟩) ?_ ?_
              rotate_left
              · simp only [Act.put, List.setIfInBounds_toArray, List.set_cons_zero, List.set_cons_succ, i64_w, i32_w]
                rfl
              refine pure_ (i := 14) (N := some 40) (v := undef) (a' := ?_) #[true, true, true, true, true, true, true, true, true, true, true, true, true, true, true, false, false, false, false, false, false, false, false, false, false, false, false, false, false, false, false, false, false] rfl rfl (any_of HT_.out (by kernel_rfl)) (fun _ _ _ h => h) (Or.inr ⟨by rfl, rfl⟩) ?_ ?_
              rotate_left
              · simp only [Act.put, List.setIfInBounds_toArray, List.set_cons_zero, List.set_cons_succ, i64_w, i32_w]
                rfl
              refine pure_ (i := 15) (N := some 41) (v := undef) (a' := ?_) #[true, true, true, true, true, true, true, true, true, true, true, true, true, true, true, true, false, false, false, false, false, false, false, false, false, false, false, false, false, false, false, false, false] rfl rfl (any_of HT_.out (by kernel_rfl)) (fun _ _ _ h => h) (Or.inr ⟨by rfl, rfl⟩) ?_ ?_
              rotate_left
              · simp only [Act.put, List.setIfInBounds_toArray, List.set_cons_zero, List.set_cons_succ, i64_w, i32_w]
                rfl
              refine pure_ (i := 16) (N := some 42) (v := undef) (a' := ?_) #[true, true, true, true, true, true, true, true, true, true, true, true, true, true, true, true, true, false, false, false, false, false, false, false, false, false, false, false, false, false, false, false, false] rfl rfl (any_of HT_.out (by kernel_rfl)) (fun _ _ _ h => h) (Or.inr ⟨by rfl, rfl⟩) ?_ ?_
              rotate_left
              · simp only [Act.put, List.setIfInBounds_toArray, List.set_cons_zero, List.set_cons_succ, i64_w, i32_w]
                rfl
              refine pure_ (i := 17) (N := some 43) (v := undef) (a' := ?_) #[true, true, true, true, true, true, true, true, true, true, true, true, true, true, true, true, true, true, false, false, false, false, false, false, false, false, false, false, false, false, false, false, false] rfl rfl (any_of HT_.out (by kernel_rfl)) (fun _ _ _ h => h) (Or.inr ⟨by rfl, rfl⟩) ?_ ?_
              rotate_left
              · simp only [Act.put, List.setIfInBounds_toArray, List.set_cons_zero, List.set_cons_succ, i64_w, i32_w]
                rfl
              refine pure_ (i := 18) (N := some 44) (v := undef) (a' := ?_) #[true, true, true, true, true, true, true, true, true, true, true, true, true, true, true, true, true, true, true, false, false, false, false, false, false, false, false, false, false, false, false, false, false] rfl rfl (any_of HT_.out (by kernel_rfl)) (fun _ _ _ h => h) (Or.inr ⟨by rfl, rfl⟩) ?_ ?_
              rotate_left
              · simp only [Act.put, List.setIfInBounds_toArray, List.set_cons_zero, List.set_cons_succ, i64_w, i32_w]
                rfl
              refine pure_ (i := 19) (N := some 45) (v := undef) (a' := ?_) #[true, true, true, true, true, true, true, true, true, true, true, true, true, true, true, true, true, true, true, true, false, false, false, false, false, false, false, false, false, false, false, false, false] rfl rfl (any_of HT_.out (by kernel_rfl)) (fun _ _ _ h => h) (Or.inr ⟨by rfl, rfl⟩) ?_ ?_
              rotate_left
              · simp only [Act.put, List.setIfInBounds_toArray, List.set_cons_zero, List.set_cons_succ, i64_w, i32_w]
                rfl
              refine pure_ (i := 20) (N := some 46) (v := undef) (a' := ?_) #[true, true, true, true, true, true, true, true, true, true, true, true, true, true, true, true, true, true, true, true, true, false, false, false, false, false, false, false, false, false, false, false, false] rfl rfl (any_of HT_.out (by kernel_rfl)) (fun _ _ _ h => h) (Or.inr ⟨by rfl, rfl⟩) ?_ ?_
              rotate_left
              · simp only [Act.put, List.setIfInBounds_toArray, List.set_cons_zero, List.set_cons_succ, i64_w, i32_w]
                rfl
              refine pure_ (i := 21) (N := some 47) (v := undef) (a' := ?_) #[true, true, true, true, true, true, true, true, true, true, true, true, true, true, true, true, true, true, true, true, true, true, false, false, false, false, false, false, false, false, false, false, false] rfl rfl (any_of HT_.out (by kernel_rfl)) (fun _ _ _ h => h) (Or.inr ⟨by rfl, rfl⟩) ?_ ?_
              rotate_left
              · simp only [Act.put, List.setIfInBounds_toArray, List.set_cons_zero, List.set_cons_succ, i64_w, i32_w]
                rfl
              refine pure_ (i := 22) (N := some 48) (v := undef) (a' := ?_) #[true, true, true, true, true, true, true, true, true, true, true, true, true, true, true, true, true, true, true, true, true, true, true, false, false, false, false, false, false, false, false, false, false] rfl rfl (any_of HT_.out (by kernel_rfl)) (fun _ _ _ h => h) (Or.inr ⟨by rfl, rfl⟩) ?_ ?_
              rotate_left
              · simp only [Act.put, List.setIfInBounds_toArray, List.set_cons_zero, List.set_cons_succ, i64_w, i32_w]
                rfl
              refine pure_ (i := 23) (N := some 49) (v := undef) (a' := ?_) #[true, true, true, true, true, true, true, true, true, true, true, true, true, true, true, true, true, true, true, true, true, true, true, true, false, false, false, false, false, false, false, false, false] rfl rfl (any_of HT_.out (by kernel_rfl)) (fun _ _ _ h => h) (Or.inr ⟨by rfl, rfl⟩) ?_ ?_
              rotate_left
              · simp only [Act.put, List.setIfInBounds_toArray, List.set_cons_zero, List.set_cons_succ, i64_w, i32_w]
                rfl
              refine pure_ (i := 24) (N := some 50) (v := ?_) (a' := ?_) #[true, true, true, true, true, true, true, true, true, true, true, true, true, true, true, true, true, true, true, true, true, true, true, true, true, false, false, false, false, false, false, false, false] rfl rfl (any_of HT_.out (by kernel_rfl)) (fun _ _ _ h => h) (Or.inl ⟨by rfl, ?_⟩) ?_ ?_
              rotate_left
              · intro w'
                go_simp
                with_reducible rfl
              rotate_left
              · simp only [Act.put, List.setIfInBounds_toArray, List.set_cons_zero, List.set_cons_succ, i64_w, i32_w]
                rfl
              refine pure_ (i := 25) (N := some 51) (v := ?_) (a' := ?_) #[true, true, true, true, true, true, true, true, true, true, true, true, true, true, true, true, true, true, true, true, true, true, true, true, true, true, false, false, false, false, false, false, false] rfl rfl (any_of HT_.out (by kernel_rfl)) (fun _ _ _ h => h) (Or.inl ⟨by rfl, ?_⟩) ?_ ?_
              rotate_left
              · intro w'
                go_simp
                with_reducible rfl
              rotate_left
              · simp only [Act.put, List.setIfInBounds_toArray, List.set_cons_zero, List.set_cons_succ, i64_w, i32_w]
                rfl
              refine pure_ (i := 26) (N := some 52) (v := undef) (a' := ?_) #[true, true, true, true, true, true, true, true, true, true, true, true, true, true, true, true, true, true, true, true, true, true, true, true, true, true, true, false, false, false, false, false, false] rfl rfl (any_of HT_.out (by kernel_rfl)) (fun _ _ _ h => h) (Or.inr ⟨by rfl, rfl⟩) ?_ ?_
              rotate_left
              · simp only [Act.put, List.setIfInBounds_toArray, List.set_cons_zero, List.set_cons_succ, i64_w, i32_w]
                rfl
              refine pure_ (i := 27) (N := some 53) (v := undef) (a' := ?_) #[true, true, true, true, true, true, true, true, true, true, true, true, true, true, true, true, true, true, true, true, true, true, true, true, true, true, true, true, false, false, false, false, false] rfl rfl (any_of HT_.out (by kernel_rfl)) (fun _ _ _ h => h) (Or.inr ⟨by rfl, rfl⟩) ?_ ?_
              rotate_left
              · simp only [Act.put, List.setIfInBounds_toArray, List.set_cons_zero, List.set_cons_succ, i64_w, i32_w]
                rfl
              refine pure_ (i := 28) (N := some 54) (v := undef) (a' := ?_) #[true, true, true, true, true, true, true, true, true, true, true, true, true, true, true, true, true, true, true, true, true, true, true, true, true, true, true, true, true, false, false, false, false] rfl rfl (any_of HT_.out (by kernel_rfl)) (fun _ _ _ h => h) (Or.inr ⟨by rfl, rfl⟩) ?_ ?_
              rotate_left
              · simp only [Act.put, List.setIfInBounds_toArray, List.set_cons_zero, List.set_cons_succ, i64_w, i32_w]
                rfl
              refine pure_ (i := 29) (N := some 55) (v := undef) (a' := ?_) #[true, true, true, true, true, true, true, true, true, true, true, true, true, true, true, true, true, true, true, true, true, true, true, true, true, true, true, true, true, true, false, false, false] rfl rfl (any_of HT_.out (by kernel_rfl)) (fun _ _ _ h => h) (Or.inr ⟨by rfl, rfl⟩) ?_ ?_
              rotate_left
              · simp only [Act.put, List.setIfInBounds_toArray, List.set_cons_zero, List.set_cons_succ, i64_w, i32_w]
                rfl
              refine pure_ (i := 30) (N := some 56) (v := undef) (a' := ?_) #[true, true, true, true, true, true, true, true, true, true, true, true, true, true, true, true, true, true, true, true, true, true, true, true, true, true, true, true, true, true, true, false, false] rfl rfl (any_of HT_.out (by kernel_rfl)) (fun _ _ _ h => h) (Or.inr ⟨by rfl, rfl⟩) ?_ ?_
              rotate_left
              · simp only [Act.put, List.setIfInBounds_toArray, List.set_cons_zero, List.set_cons_succ, i64_w, i32_w]
                rfl
              refine pure_ (i := 31) (N := some 57) (v := undef) (a' := ?_) #[true, true, true, true, true, true, true, true, true, true, true, true, true, true, true, true, true, true, true, true, true, true, true, true, true, true, true, true, true, true, true, true, false] rfl rfl (any_of HT_.out (by kernel_rfl)) (fun _ _ _ h => h) (Or.inr ⟨by rfl, rfl⟩) ?_ ?_
              rotate_left
              · simp only [Act.put, List.setIfInBounds_toArray, List.set_cons_zero, List.set_cons_succ, i64_w, i32_w]
                rfl
              refine pure_ (i := 32) (N := some 58) (v := ?_) (a' := ?_) #[true, true, true, true, true, true, true, true, true, true, true, true, true, true, true, true, true, true, true, true, true, true, true, true, true, true, true, true, true, true, true, true, true] rfl rfl (any_of HT_.out (by kernel_rfl)) (fun _ _ _ h => h) (Or.inl ⟨by rfl, ?_⟩) ?_ ?_
              rotate_left
              · intro w'
                go_simp
                with_reducible rfl
              rotate_left
              · simp only [Act.put, List.setIfInBounds_toArray, List.set_cons_zero, List.set_cons_succ, i64_w, i32_w]
                rfl
              refine done_ (done_of HT_.out (by kernel_rfl)) ?_
              go_wp2_with fail
              go_meet
              case rel => exact ⟨congrArg Value.bool HV.out.symm, ⟨BZ.out⟩⟩
            | true =>
              have HO := Aside0.mk hok
              clear hok
              have hjt : j < (truth n l es).length := by rw [HTL.out]; exact hlt
              have hjt2 := eq_true hjt
              have H0 := Aside0.mk (show 0 < (truthAt n l es (j + 1)).length by rw [truthAt_length]; have := HN.out; omega)
              have H63 := Aside0.mk (show (truthAt n l es (j + 1)).length < 9223372036854775807 by rw [truthAt_length]; have := HN.out; omega)
              obtain ⟨m, hm⟩ : ∃ m, minL ((truthAt n l es (j + 1)).drop 1) (rd (truthAt n l es (j + 1)) 0) = m := ⟨_, rfl⟩
              have HM := Aside0.mk hm
              clear hm
              have HMN := Aside0.mk (show (!(nonneg (truthAt n l es (j + 1)))) = decide (m < 0) by rw [← HM.out]; exact min_dec _ H0.out)
              by_cases h5 : x.f0 = 5
              · have h5b : (x.f0 == 5) = true := beq_iff_eq.mpr h5
                have H5 := Aside0.mk h5
                clear h5
                have HRE := Aside0.mk (truthAt_reset (n := n) (l := l) (es := es) hlt (by rw [HX.out]; exact H5.out))
                by_cases hj0 : (j : Int) > 0
                · have hj0b : decide ((0 : Int) < (j : Int)) = true := decide_eq_true hj0
                  have hj0c : decide (0 < j) = true := decide_eq_true (by omega)
                  obtain ⟨o1, o2⟩ := eventOk_reset HO.out H5.out
                  obtain ⟨ji, hji⟩ : ∃ ji : Int, ji = (j : Int) - 1 := ⟨_, rfl⟩
                  have hjn : ji = ((j - 1 : Nat) : Int) := by omega
                  have hq0 : (0 : Int) ≤ ji := by omega
                  have hq1 : ji < ((truth n l es).length : Int) := by rw [HTL.out]; omega
                  obtain ⟨adt', Ap, cp, e, yp, lp, Cp⟩ := at_L12 (Kd.S_reads' ST.out.HT).2.2 ji hq0 hq1
                  cases e
                  have hrd : rd_L12 (truth n l es) ji = truthAt n l es j := by rw [hjn, truth_rd HL.out HE.out (j - 1) (by omega), show j - 1 + 1 = j by omega]
                  rw [hrd] at yp lp Cp
                  have hof : x.f1 < ((truthAt n l es j).length : Int) := by rw [truthAt_length]; have := HN.out; omega
                  obtain ⟨adp, e, -⟩ := Cp.2.2 (by omega)
                  subst e
                  have hcv := pw_cell_below BR.out (Kd.foot_int Cp x.f1 o1 hof)
                  have hcp := pw_cell_below BR.out yp
                  have hw1 : wrap64 ((j : Int) - 1) = ji := by rw [hji]; exact wrap_id (by have := HE.out; omega) (by have := HE.out; omega)
                  have hw2 : IntKind.i64.wrap ((j : Int) - 1) = ji := by rw [i64_w]; exact hw1
                  have hp0 := eq_true hq0
                  have hp1 := eq_true hq1
                  have ho0 := eq_true o1
                  have ho1 := eq_true hof
                  generalize hrv : rd (truthAt n l es j) x.f1 = rv at hcv
                  have HRV := Aside0.mk hrv
                  clear hrv hji hjn hrd lp Cp yp hj0 o2
                  by_cases hz : rv = 0
                  · have hzb : (rv != 0) = false := bne_eq_false_iff_eq.mpr hz
                    have HV := Aside0.mk (show (!(honestAt n l es j)) = decide (m < 0) by rw [honestAt_zero (by rw [HX.out]; exact HO.out) (by rw [HX.out, HRE.out, HRV.out]; exact hz)]; exact HMN.out)
                    clear hz
                    refine start_ (n := 33) (S := fun w' => w'.cell? ⟨gl, 0, none⟩ = some (.int .i64 n) ∧ w'.cell? ⟨gl, 1, none⟩ = some (.slice A l.length c) ∧ w'.cell? ⟨ge, 0, none⟩ = some (.int .i64 x.f0) ∧ w'.cell? ⟨ge, 1, none⟩ = some (.int .i64 x.f1) ∧ w'.cell? ⟨ge, 2, none⟩ = some (.int .i64 x.f2) ∧ w'.cell? (adt.add j) = some (.slice Ar (truthAt n l es (j + 1)).length cr) ∧ w'.cell? (adt.add ji.toNat) = some (.slice (some adp) (truthAt n l es j).length cp) ∧ w'.cell? (adp.add x.f1.toNat) = some (.int .i64 rv)) (ds := []) #[false, false, false, false, false, false, false, false, false, false, false, false, false, false, false, false, false, false, false, false, false, false, false, false, false, false, false, false, false, false, false, false, false] (by kernel_rfl) rfl rfl ⟨hcl0, hcl1, hce0, hce1, hce2, hcy, hcp, hcv⟩ (fun hHeld => ?_); refine with_tabW ho_tab7 ho_bits7 (fun HT_ HW_ => ?_)
                    refine take_ (i := 0) (N := some 26) (v := ?_) (a' := ?_) #[true, false, false, false, false, false, false, false, false, false, false, false, false, false, false, false, false, false, false, false, false, false, false, false, false, false, false, false, false, false, false, false, false] rfl rfl (take_ofW HT_.out HW_.out (by kernel_rfl)) (fun _ _ _ h => h) (Or.inl ⟨by rfl, ?_⟩) hHeld ?_ ?_
                    rotate_left
                    · rintro w' ⟨s0, s1, s2, s3, s4, s5, s6, s7⟩
                      go_simp
                      with_reducible rfl
                    rotate_left
                    · simp only [Act.put, List.setIfInBounds_toArray, List.set_cons_zero, List.set_cons_succ, i64_w, i32_w]
                      rfl
                    refine take_ (i := 1) (N := some 27) (v := ?_) (a' := ?_) #[true, true, false, false, false, false, false, false, false, false, false, false, false, false, false, false, false, false, false, false, false, false, false, false, false, false, false, false, false, false, false, false, false] rfl rfl (take_ofW HT_.out HW_.out (by kernel_rfl)) (fun _ _ _ h => h) (Or.inl ⟨by rfl, ?_⟩) hHeld ?_ ?_
                    rotate_left
                    · rintro w' ⟨s0, s1, s2, s3, s4, s5, s6, s7⟩
                      go_simp
                      with_reducible rfl
                    rotate_left
                    · simp only [Act.put, List.setIfInBounds_toArray, List.set_cons_zero, List.set_cons_succ, i64_w, i32_w]
                      rfl
                    refine one_ (i := 2) (N := some 28) #[true, true, true, false, false, false, false, false, false, false, false, false, false, false, false, false, false, false, false, false, false, false, false, false, false, false, false, false, false, false, false, false, false] rfl rfl (one_of HT_.out (by kernel_rfl)) (by decide) (fun K hK => ?_)
                    refine goes_ Try.func36 (by kernel_rfl) rfl #[.agg #[.int .i64 n, .slice A l.length c], .agg #[.int .i64 x.f0, .int .i64 x.f1, .int .i64 x.f2]] (by rfl) rfl rfl (by (try simp only [List.map_toArray, List.map_cons, List.map_nil]); first | done | rfl | (simp only [List.length_drop, List.length_take]; rfl)) ?_
                    with_reducible refine (ev_at x.f0 x.f1 x.f2 HO.out (Kd.C_below HR.out BD.out) HC.out).mono ?_; rintro e w9 ⟨rfl, hb⟩
                    refine ⟨_, rfl, ?_⟩
                    have BZ := Aside0.mk (below_step BR.out hb)
                    refine hK.out _ _ ⟨pw_cell_below hb hHeld.1, pw_cell_below hb hHeld.2.1, pw_cell_below hb hHeld.2.2.1, pw_cell_below hb hHeld.2.2.2.1, pw_cell_below hb hHeld.2.2.2.2.1, pw_cell_below hb hHeld.2.2.2.2.2.1, pw_cell_below hb hHeld.2.2.2.2.2.2.1, pw_cell_below hb hHeld.2.2.2.2.2.2.2⟩ (fun hHeld => ?_)
                    clear hK K
                    refine norm_ (a' := ?_) ?_ ?_
                    rotate_left
                    · show Act.put _ (some 28) _ = _
                      simp only [Act.put, List.setIfInBounds_toArray, List.set_cons_zero, List.set_cons_succ, i64_w, i32_w]
                      rfl
                    refine pure_ (i := 3) (N := some 29) (v := ?_) (a' := ?_) #[true, true, true, true, false, false, false, false, false, false, false, false, false, false, false, false, false, false, false, false, false, false, false, false, false, false, false, false, false, false, false, false, false] rfl rfl (any_of HT_.out (by kernel_rfl)) (fun _ _ _ h => h) (Or.inl ⟨by rfl, ?_⟩) ?_ ?_
                    rotate_left
                    · intro w'
                      go_simp
                      with_reducible rfl
                    rotate_left
                    · simp only [Act.put, List.setIfInBounds_toArray, List.set_cons_zero, List.set_cons_succ, i64_w, i32_w]
                      rfl
                    refine pure_ (i := 4) (N := some 30) (v := ?_) (a' := ?_) #[true, true, true, true, true, false, false, false, false, false, false, false, false, false, false, false, false, false, false, false, false, false, false, false, false, false, false, false, false, false, false, false, false] rfl rfl (any_of HT_.out (by kernel_rfl)) (fun _ _ _ h => h) (Or.inl ⟨by rfl, ?_⟩) ?_ ?_
                    rotate_left
                    · intro w'
                      go_simp
                      with_reducible rfl
                    rotate_left
                    · simp only [Act.put, List.setIfInBounds_toArray, List.set_cons_zero, List.set_cons_succ, i64_w, i32_w]
                      rfl
                    refine pure_ (i := 5) (N := some 31) (v := ?_) (a' := ?_) #[true, true, true, true, true, true, false, false, false, false, false, false, false, false, false, false, false, false, false, false, false, false, false, false, false, false, false, false, false, false, false, false, false] rfl rfl (any_of HT_.out (by kernel_rfl)) (fun _ _ _ h => h) (Or.inl ⟨by rfl, ?_⟩) ?_ ?_
                    rotate_left
                    · intro w'
                      go_simp
                      with_reducible rfl
                    rotate_left
                    · simp only [Act.put, List.setIfInBounds_toArray, List.set_cons_zero, List.set_cons_succ, i64_w, i32_w]
                      rfl
                    refine take_ (i := 6) (N := some 32) (v := ?_) (a' := ?_) #[true, true, true, true, true, true, true, false, false, false, false, false, false, false, false, false, false, false, false, false, false, false, false, false, false, false, false, false, false, false, false, false, false] rfl rfl (take_ofW HT_.out HW_.out (by kernel_rfl)) (fun _ _ _ h => h) (Or.inl ⟨by rfl, ?_⟩) hHeld ?_ ?_
                    rotate_left
                    · rintro w' ⟨s0, s1, s2, s3, s4, s5, s6, s7⟩
                      go_simp
                      with_reducible rfl
                    rotate_left
                    · simp only [Act.put, List.setIfInBounds_toArray, List.set_cons_zero, List.set_cons_succ, i64_w, i32_w]
                      rfl
                    refine pure_ (i := 7) (N := some 33) (v := ?_) (a' := ?_) #[true, true, true, true, true, true, true, true, false, false, false, false, false, false, false, false, false, false, false, false, false, false, false, false, false, false, false, false, false, false, false, false, false] rfl rfl (any_of HT_.out (by kernel_rfl)) (fun _ _ _ h => h) (Or.inl ⟨by rfl, ?_⟩) ?_ ?_
                    rotate_left
                    · intro w'
                      go_simp
                      with_reducible rfl
                    rotate_left
                    · simp only [Act.put, List.setIfInBounds_toArray, List.set_cons_zero, List.set_cons_succ, i64_w, i32_w]
                      rfl
                    refine pure_ (i := 8) (N := some 34) (v := ?_) (a' := ?_) #[true, true, true, true, true, true, true, true, true, false, false, false, false, false, false, false, false, false, false, false, false, false, false, false, false, false, false, false, false, false, false, false, false] rfl rfl (any_of HT_.out (by kernel_rfl)) (fun _ _ _ h => h) (Or.inl ⟨by rfl, ?_⟩) ?_ ?_
                    rotate_left
                    · intro w'
                      go_simp
                      with_reducible rfl
                    rotate_left
                    · simp only [Act.put, List.setIfInBounds_toArray, List.set_cons_zero, List.set_cons_succ, i64_w, i32_w]
                      rfl
                    refine pure_ (i := 9) (N := some 35) (v := ?_) (a' := ?_) #[true, true, true, true, true, true, true, true, true, true, false, false, false, false, false, false, false, false, false, false, false, false, false, false, false, false, false, false, false, false, false, false, false] rfl rfl (any_of HT_.out (by kernel_rfl)) (fun _ _ _ h => h) (Or.inl ⟨by rfl, ?_⟩) ?_ ?_
                    rotate_left
                    · intro w'
                      go_simp
                      with_reducible rfl
                    rotate_left
                    · simp only [Act.put, List.setIfInBounds_toArray, List.set_cons_zero, List.set_cons_succ, i64_w, i32_w]
                      rfl
                    refine pure_ (i := 10) (N := some 36) (v := ?_) (a' := ?_) #[true, true, true, true, true, true, true, true, true, true, true, false, false, false, false, false, false, false, false, false, false, false, false, false, false, false, false, false, false, false, false, false, false] rfl rfl (any_of HT_.out (by kernel_rfl)) (fun _ _ _ h => h) (Or.inl ⟨by rfl, ?_⟩) ?_ ?_
                    rotate_left
                    · intro w'
                      go_simp
                      with_reducible rfl
                    rotate_left
                    · simp only [Act.put, List.setIfInBounds_toArray, List.set_cons_zero, List.set_cons_succ, i64_w, i32_w]
                      rfl
                    refine pure_ (i := 11) (N := some 37) (v := ?_) (a' := ?_) #[true, true, true, true, true, true, true, true, true, true, true, true, false, false, false, false, false, false, false, false, false, false, false, false, false, false, false, false, false, false, false, false, false] rfl rfl (any_of HT_.out (by kernel_rfl)) (fun _ _ _ h => h) (Or.inl ⟨by rfl, ?_⟩) ?_ ?_
                    rotate_left
                    · intro w'
                      go_simp
                      with_reducible rfl
                    rotate_left
                    · simp only [Act.put, List.setIfInBounds_toArray, List.set_cons_zero, List.set_cons_succ, i64_w, i32_w]
                      rfl
                    refine pure_ (i := 12) (N := some 38) (v := ?_) (a' := ?_) #[true, true, true, true, true, true, true, true, true, true, true, true, true, false, false, false, false, false, false, false, false, false, false, false, false, false, false, false, false, false, false, false, false] rfl rfl (any_of HT_.out (by kernel_rfl)) (fun _ _ _ h => h) (Or.inl ⟨by rfl, ?_⟩) ?_ ?_
                    rotate_left
                    · intro w'
                      go_simp
                      with_reducible rfl
                    rotate_left
                    · simp only [Act.put, List.setIfInBounds_toArray, List.set_cons_zero, List.set_cons_succ, i64_w, i32_w]
                      rfl
                    refine pure_ (i := 13) (N := some 39) (v := ?_) (a' := ?_) #[true, true, true, true, true, true, true, true, true, true, true, true, true, true, false, false, false, false, false, false, false, false, false, false, false, false, false, false, false, false, false, false, false] rfl rfl (any_of HT_.out (by kernel_rfl)) (fun _ _ _ h => h) (Or.inl ⟨by rfl, ?_⟩) ?_ ?_
                    rotate_left
                    · intro w'
                      go_simp
                      with_reducible rfl
                    rotate_left
                    · simp only [Act.put, List.setIfInBounds_toArray, List.set_cons_zero, List.set_cons_succ, i64_w, i32_w]
                      rfl
                    refine pure_ (i := 14) (N := some 40) (v := ?_) (a' := ?_) #[true, true, true, true, true, true, true, true, true, true, true, true, true, true, true, false, false, false, false, false, false, false, false, false, false, false, false, false, false, false, false, false, false] rfl rfl (any_of HT_.out (by kernel_rfl)) (fun _ _ _ h => h) (Or.inl ⟨by rfl, ?_⟩) ?_ ?_
                    rotate_left
                    · intro w'
                      go_simp
                      with_reducible rfl
                    rotate_left
                    · simp only [Act.put, List.setIfInBounds_toArray, List.set_cons_zero, List.set_cons_succ, i64_w, i32_w]
                      rfl
                    refine pure_ (i := 15) (N := some 41) (v := ?_) (a' := ?_) #[true, true, true, true, true, true, true, true, true, true, true, true, true, true, true, true, false, false, false, false, false, false, false, false, false, false, false, false, false, false, false, false, false] rfl rfl (any_of HT_.out (by kernel_rfl)) (fun _ _ _ h => h) (Or.inl ⟨by rfl, ?_⟩) ?_ ?_
                    rotate_left
                    · intro w'
                      go_simp
                      with_reducible rfl
                    rotate_left
                    · simp only [Act.put, List.setIfInBounds_toArray, List.set_cons_zero, List.set_cons_succ, i64_w, i32_w]
                      rfl
                    refine pure_ (i := 16) (N := some 42) (v := ?_) (a' := ?_) #[true, true, true, true, true, true, true, true, true, true, true, true, true, true, true, true, true, false, false, false, false, false, false, false, false, false, false, false, false, false, false, false, false] rfl rfl (any_of HT_.out (by kernel_rfl)) (fun _ _ _ h => h) (Or.inl ⟨by rfl, ?_⟩) ?_ ?_
                    rotate_left
                    · intro w'
                      go_simp
                      with_reducible rfl
                    rotate_left
                    · simp only [Act.put, List.setIfInBounds_toArray, List.set_cons_zero, List.set_cons_succ, i64_w, i32_w]
                      rfl
                    refine take_ (i := 17) (N := some 43) (v := ?_) (a' := ?_) #[true, true, true, true, true, true, true, true, true, true, true, true, true, true, true, true, true, true, false, false, false, false, false, false, false, false, false, false, false, false, false, false, false] rfl rfl (take_ofW HT_.out HW_.out (by kernel_rfl)) (fun _ _ _ h => h) (Or.inl ⟨by rfl, ?_⟩) hHeld ?_ ?_
                    rotate_left
                    · rintro w' ⟨s0, s1, s2, s3, s4, s5, s6, s7⟩
                      go_simp
                      with_reducible rfl
                    rotate_left
                    · simp only [Act.put, List.setIfInBounds_toArray, List.set_cons_zero, List.set_cons_succ, i64_w, i32_w]
                      rfl
                    refine pure_ (i := 18) (N := some 44) (v := ?_) (a' := ?_) #[true, true, true, true, true, true, true, true, true, true, true, true, true, true, true, true, true, true, true, false, false, false, false, false, false, false, false, false, false, false, false, false, false] rfl rfl (any_of HT_.out (by kernel_rfl)) (fun _ _ _ h => h) (Or.inl ⟨by rfl, ?_⟩) ?_ ?_
                    rotate_left
                    · intro w'
                      go_simp
                      with_reducible rfl
                    rotate_left
                    · simp only [Act.put, List.setIfInBounds_toArray, List.set_cons_zero, List.set_cons_succ, i64_w, i32_w]
                      rfl
                    refine take_ (i := 19) (N := some 45) (v := ?_) (a' := ?_) #[true, true, true, true, true, true, true, true, true, true, true, true, true, true, true, true, true, true, true, true, false, false, false, false, false, false, false, false, false, false, false, false, false] rfl rfl (take_ofW HT_.out HW_.out (by kernel_rfl)) (fun _ _ _ h => h) (Or.inl ⟨by rfl, ?_⟩) hHeld ?_ ?_
                    rotate_left
                    · rintro w' ⟨s0, s1, s2, s3, s4, s5, s6, s7⟩
                      go_simp
                      with_reducible rfl
                    rotate_left
                    · simp only [Act.put, List.setIfInBounds_toArray, List.set_cons_zero, List.set_cons_succ, i64_w, i32_w]
                      rfl
                    refine pure_ (i := 20) (N := some 46) (v := ?_) (a' := ?_) #[true, true, true, true, true, true, true, true, true, true, true, true, true, true, true, true, true, true, true, true, true, false, false, false, false, false, false, false, false, false, false, false, false] rfl rfl (any_of HT_.out (by kernel_rfl)) (fun _ _ _ h => h) (Or.inl ⟨by rfl, ?_⟩) ?_ ?_
                    rotate_left
                    · intro w'
                      go_simp
                      with_reducible rfl
                    rotate_left
                    · simp only [Act.put, List.setIfInBounds_toArray, List.set_cons_zero, List.set_cons_succ, i64_w, i32_w]
                      rfl
                    refine take_ (i := 21) (N := some 47) (v := ?_) (a' := ?_) #[true, true, true, true, true, true, true, true, true, true, true, true, true, true, true, true, true, true, true, true, true, true, false, false, false, false, false, false, false, false, false, false, false] rfl rfl (take_ofW HT_.out HW_.out (by kernel_rfl)) (fun _ _ _ h => h) (Or.inl ⟨by rfl, ?_⟩) hHeld ?_ ?_
                    rotate_left
                    · rintro w' ⟨s0, s1, s2, s3, s4, s5, s6, s7⟩
                      go_simp
                      with_reducible rfl
                    rotate_left
                    · simp only [Act.put, List.setIfInBounds_toArray, List.set_cons_zero, List.set_cons_succ, i64_w, i32_w]
                      rfl
                    refine pure_ (i := 22) (N := some 48) (v := ?_) (a' := ?_) #[true, true, true, true, true, true, true, true, true, true, true, true, true, true, true, true, true, true, true, true, true, true, true, false, false, false, false, false, false, false, false, false, false] rfl rfl (any_of HT_.out (by kernel_rfl)) (fun _ _ _ h => h) (Or.inl ⟨by rfl, ?_⟩) ?_ ?_
                    rotate_left
                    · intro w'
                      go_simp
                      with_reducible rfl
                    rotate_left
                    · simp only [Act.put, List.setIfInBounds_toArray, List.set_cons_zero, List.set_cons_succ, i64_w, i32_w]
                      rfl
                    refine pure_ (i := 23) (N := some 49) (v := ?_) (a' := ?_) #[true, true, true, true, true, true, true, true, true, true, true, true, true, true, true, true, true, true, true, true, true, true, true, true, false, false, false, false, false, false, false, false, false] rfl rfl (any_of HT_.out (by kernel_rfl)) (fun _ _ _ h => h) (Or.inl ⟨by rfl, ?_⟩) ?_ ?_
                    rotate_left
                    · intro w'
                      go_simp
                      with_reducible rfl
                    rotate_left
                    · simp only [Act.put, List.setIfInBounds_toArray, List.set_cons_zero, List.set_cons_succ, i64_w, i32_w]
                      rfl
                    refine pure_ (i := 24) (N := some 50) (v := ?_) (a' := ?_) #[true, true, true, true, true, true, true, true, true, true, true, true, true, true, true, true, true, true, true, true, true, true, true, true, true, false, false, false, false, false, false, false, false] rfl rfl (any_of HT_.out (by kernel_rfl)) (fun _ _ _ h => h) (Or.inl ⟨by rfl, ?_⟩) ?_ ?_
                    rotate_left
                    · intro w'
                      go_simp
                      with_reducible rfl
                    rotate_left
                    · simp only [Act.put, List.setIfInBounds_toArray, List.set_cons_zero, List.set_cons_succ, i64_w, i32_w]
                      rfl
                    refine pure_ (i := 25) (N := some 51) (v := ?_) (a' := ?_) #[true, true, true, true, true, true, true, true, true, true, true, true, true, true, true, true, true, true, true, true, true, true, true, true, true, true, false, false, false, false, false, false, false] rfl rfl (any_of HT_.out (by kernel_rfl)) (fun _ _ _ h => h) (Or.inl ⟨by rfl, ?_⟩) ?_ ?_
                    rotate_left
                    · intro w'
                      go_simp
                      with_reducible rfl
                    rotate_left
                    · simp only [Act.put, List.setIfInBounds_toArray, List.set_cons_zero, List.set_cons_succ, i64_w, i32_w]
                      rfl
                    refine pure_ (i := 26) (N := some 52) (v := ?_) (a' := ?_) #[true, true, true, true, true, true, true, true, true, true, true, true, true, true, true, true, true, true, true, true, true, true, true, true, true, true, true, false, false, false, false, false, false] rfl rfl (any_of HT_.out (by kernel_rfl)) (fun _ _ _ h => h) (Or.inl ⟨by rfl, ?_⟩) ?_ ?_
                    rotate_left
                    · intro w'
                      go_simp
                      with_reducible rfl
                    rotate_left
                    · simp only [Act.put, List.setIfInBounds_toArray, List.set_cons_zero, List.set_cons_succ, i64_w, i32_w]
                      rfl
                    refine pure_ (i := 27) (N := some 53) (v := ?_) (a' := ?_) #[true, true, true, true, true, true, true, true, true, true, true, true, true, true, true, true, true, true, true, true, true, true, true, true, true, true, true, true, false, false, false, false, false] rfl rfl (any_of HT_.out (by kernel_rfl)) (fun _ _ _ h => h) (Or.inl ⟨by rfl, ?_⟩) ?_ ?_
                    rotate_left
                    · intro w'
                      go_simp
                      with_reducible rfl
                    rotate_left
                    · simp only [Act.put, List.setIfInBounds_toArray, List.set_cons_zero, List.set_cons_succ, i64_w, i32_w]
                      rfl
                    refine pure_ (i := 28) (N := some 54) (v := ?_) (a' := ?_) #[true, true, true, true, true, true, true, true, true, true, true, true, true, true, true, true, true, true, true, true, true, true, true, true, true, true, true, true, true, false, false, false, false] rfl rfl (any_of HT_.out (by kernel_rfl)) (fun _ _ _ h => h) (Or.inl ⟨by rfl, ?_⟩) ?_ ?_
                    rotate_left
                    · intro w'
                      go_simp
                      with_reducible rfl
                    rotate_left
                    · simp only [Act.put, List.setIfInBounds_toArray, List.set_cons_zero, List.set_cons_succ, i64_w, i32_w]
                      rfl
                    refine take_ (i := 29) (N := some 55) (v := ?_) (a' := ?_) #[true, true, true, true, true, true, true, true, true, true, true, true, true, true, true, true, true, true, true, true, true, true, true, true, true, true, true, true, true, true, false, false, false] rfl rfl (take_ofW HT_.out HW_.out (by kernel_rfl)) (fun _ _ _ h => h) (Or.inl ⟨by rfl, ?_⟩) hHeld ?_ ?_
                    rotate_left
                    · rintro w' ⟨s0, s1, s2, s3, s4, s5, s6, s7⟩
                      go_simp
                      with_reducible rfl
                    rotate_left
                    · simp only [Act.put, List.setIfInBounds_toArray, List.set_cons_zero, List.set_cons_succ, i64_w, i32_w]
                      rfl
                    refine one_ (i := 30) (N := some 56) #[true, true, true, true, true, true, true, true, true, true, true, true, true, true, true, true, true, true, true, true, true, true, true, true, true, true, true, true, true, true, true, false, false] rfl rfl (one_of HT_.out (by kernel_rfl)) (by decide) (fun K hK => ?_)
                    refine goes_ Try.func106 (by kernel_rfl) rfl #[.slice Ar (truthAt n l es (j + 1)).length cr] (by rfl) rfl rfl (by (try simp only [List.map_toArray, List.map_cons, List.map_nil]); first | done | rfl | (simp only [List.length_drop, List.length_take]; rfl)) ?_
                    with_reducible refine (min_at HM.out (Kd.C_below CR.out BZ.out) LR.out H0.out H63.out).mono ?_; rintro e w10 ⟨rfl, hb⟩
                    refine ⟨_, rfl, ?_⟩
                    have BZ := Aside0.mk (below_step BZ.out hb)
                    refine hK.out _ _ ⟨pw_cell_below hb hHeld.1, pw_cell_below hb hHeld.2.1, pw_cell_below hb hHeld.2.2.1, pw_cell_below hb hHeld.2.2.2.1, pw_cell_below hb hHeld.2.2.2.2.1, pw_cell_below hb hHeld.2.2.2.2.2.1, pw_cell_below hb hHeld.2.2.2.2.2.2.1, pw_cell_below hb hHeld.2.2.2.2.2.2.2⟩ (fun hHeld => ?_)
                    clear hK K
                    refine norm_ (a' := ?_) ?_ ?_
                    rotate_left
                    · show Act.put _ (some 56) _ = _
                      simp only [Act.put, List.setIfInBounds_toArray, List.set_cons_zero, List.set_cons_succ, i64_w, i32_w]
                      rfl
                    refine pure_ (i := 31) (N := some 57) (v := ?_) (a' := ?_) #[true, true, true, true, true, true, true, true, true, true, true, true, true, true, true, true, true, true, true, true, true, true, true, true, true, true, true, true, true, true, true, true, false] rfl rfl (any_of HT_.out (by kernel_rfl)) (fun _ _ _ h => h) (Or.inl ⟨by rfl, ?_⟩) ?_ ?_
                    rotate_left
                    · intro w'
                      go_simp
                      with_reducible rfl
                    rotate_left
                    · simp only [Act.put, List.setIfInBounds_toArray, List.set_cons_zero, List.set_cons_succ, i64_w, i32_w]
                      rfl
                    refine pure_ (i := 32) (N := some 58) (v := ?_) (a' := ?_) #[true, true, true, true, true, true, true, true, true, true, true, true, true, true, true, true, true, true, true, true, true, true, true, true, true, true, true, true, true, true, true, true, true] rfl rfl (any_of HT_.out (by kernel_rfl)) (fun _ _ _ h => h) (Or.inl ⟨by rfl, ?_⟩) ?_ ?_
                    rotate_left
                    · intro w'
                      go_simp
                      with_reducible rfl
                    rotate_left
                    · simp only [Act.put, List.setIfInBounds_toArray, List.set_cons_zero, List.set_cons_succ, i64_w, i32_w]
                      rfl
                    refine done_ (done_of HT_.out (by kernel_rfl)) ?_
                    go_wp2_with fail
                    go_meet
                    case rel => exact ⟨congrArg Value.bool HV.out.symm, ⟨BZ.out⟩⟩
                  · have hzb : (rv != 0) = true := bne_iff_ne.mpr hz
                    have HV := Aside0.mk (show (!(honestAt n l es j)) = true by rw [honestAt_some (by rw [HX.out]; exact H5.out) (by rw [HX.out, HRE.out, HRV.out]; exact hz)]; rfl)
                    clear hz
                    refine start_ (n := 33) (S := fun w' => w'.cell? ⟨gl, 0, none⟩ = some (.int .i64 n) ∧ w'.cell? ⟨gl, 1, none⟩ = some (.slice A l.length c) ∧ w'.cell? ⟨ge, 0, none⟩ = some (.int .i64 x.f0) ∧ w'.cell? ⟨ge, 1, none⟩ = some (.int .i64 x.f1) ∧ w'.cell? ⟨ge, 2, none⟩ = some (.int .i64 x.f2) ∧ w'.cell? (adt.add j) = some (.slice Ar (truthAt n l es (j + 1)).length cr) ∧ w'.cell? (adt.add ji.toNat) = some (.slice (some adp) (truthAt n l es j).length cp) ∧ w'.cell? (adp.add x.f1.toNat) = some (.int .i64 rv)) (ds := []) #[false, false, false, false, false, false, false, false, false, false, false, false, false, false, false, false, false, false, false, false, false, false, false, false, false, false, false, false, false, false, false, false, false] (by kernel_rfl) rfl rfl ⟨hcl0, hcl1, hce0, hce1, hce2, hcy, hcp, hcv⟩ (fun hHeld => ?_); refine with_tabW ho_tab7 ho_bits7 (fun HT_ HW_ => ?_)
                    refine take_ (i := 0) (N := some 26) (v := ?_) (a' := ?_) #[true, false, false, false, false, false, false, false, false, false, false, false, false, false, false, false, false, false, false, false, false, false, false, false, false, false, false, false, false, false, false, false, false] rfl rfl (take_ofW HT_.out HW_.out (by kernel_rfl)) (fun _ _ _ h => h) (Or.inl ⟨by rfl, ?_⟩) hHeld ?_ ?_
                    rotate_left
                    · rintro w' ⟨s0, s1, s2, s3, s4, s5, s6, s7⟩
                      go_simp
                      with_reducible rfl
                    rotate_left
                    · simp only [Act.put, List.setIfInBounds_toArray, List.set_cons_zero, List.set_cons_succ, i64_w, i32_w]
                      rfl
                    refine take_ (i := 1) (N := some 27) (v := ?_) (a' := ?_) #[true, true, false, false, false, false, false, false, false, false, false, false, false, false, false, false, false, false, false, false, false, false, false, false, false, false, false, false, false, false, false, false, false] rfl rfl (take_ofW HT_.out HW_.out (by kernel_rfl)) (fun _ _ _ h => h) (Or.inl ⟨by rfl, ?_⟩) hHeld ?_ ?_
                    rotate_left
                    · rintro w' ⟨s0, s1, s2, s3, s4, s5, s6, s7⟩
                      go_simp
                      with_reducible rfl
                    rotate_left
                    · simp only [Act.put, List.setIfInBounds_toArray, List.set_cons_zero, List.set_cons_succ, i64_w, i32_w]
                      rfl
                    refine one_ (i := 2) (N := some 28) #[true, true, true, false, false, false, false, false, false, false, false, false, false, false, false, false, false, false, false, false, false, false, false, false, false, false, false, false, false, false, false, false, false] rfl rfl (one_of HT_.out (by kernel_rfl)) (by decide) (fun K hK => ?_)
                    refine goes_ Try.func36 (by kernel_rfl) rfl #[.agg #[.int .i64 n, .slice A l.length c], .agg #[.int .i64 x.f0, .int .i64 x.f1, .int .i64 x.f2]] (by rfl) rfl rfl (by (try simp only [List.map_toArray, List.map_cons, List.map_nil]); first | done | rfl | (simp only [List.length_drop, List.length_take]; rfl)) ?_
                    with_reducible refine (ev_at x.f0 x.f1 x.f2 HO.out (Kd.C_below HR.out BD.out) HC.out).mono ?_; rintro e w9 ⟨rfl, hb⟩
                    refine ⟨_, rfl, ?_⟩
                    have BZ := Aside0.mk (below_step BR.out hb)
                    refine hK.out _ _ ⟨pw_cell_below hb hHeld.1, pw_cell_below hb hHeld.2.1, pw_cell_below hb hHeld.2.2.1, pw_cell_below hb hHeld.2.2.2.1, pw_cell_below hb hHeld.2.2.2.2.1, pw_cell_below hb hHeld.2.2.2.2.2.1, pw_cell_below hb hHeld.2.2.2.2.2.2.1, pw_cell_below hb hHeld.2.2.2.2.2.2.2⟩ (fun hHeld => ?_)
                    clear hK K
                    refine norm_ (a' := ?_) ?_ ?_
                    rotate_left
                    · show Act.put _ (some 28) _ = _
                      simp only [Act.put, List.setIfInBounds_toArray, List.set_cons_zero, List.set_cons_succ, i64_w, i32_w]
                      rfl
                    refine pure_ (i := 3) (N := some 29) (v := ?_) (a' := ?_) #[true, true, true, true, false, false, false, false, false, false, false, false, false, false, false, false, false, false, false, false, false, false, false, false, false, false, false, false, false, false, false, false, false] rfl rfl (any_of HT_.out (by kernel_rfl)) (fun _ _ _ h => h) (Or.inl ⟨by rfl, ?_⟩) ?_ ?_
                    rotate_left
                    · intro w'
                      go_simp
                      with_reducible rfl
                    rotate_left
                    · simp only [Act.put, List.setIfInBounds_toArray, List.set_cons_zero, List.set_cons_succ, i64_w, i32_w]
                      rfl
                    refine pure_ (i := 4) (N := some 30) (v := ?_) (a' := ?_) #[true, true, true, true, true, false, false, false, false, false, false, false, false, false, false, false, false, false, false, false, false, false, false, false, false, false, false, false, false, false, false, false, false] rfl rfl (any_of HT_.out (by kernel_rfl)) (fun _ _ _ h => h) (Or.inl ⟨by rfl, ?_⟩) ?_ ?_
                    rotate_left
                    · intro w'
                      go_simp
                      with_reducible rfl
                    rotate_left
                    · simp only [Act.put, List.setIfInBounds_toArray, List.set_cons_zero, List.set_cons_succ, i64_w, i32_w]
                      rfl
                    refine pure_ (i := 5) (N := some 31) (v := ?_) (a' := ?_) #[true, true, true, true, true, true, false, false, false, false, false, false, false, false, false, false, false, false, false, false, false, false, false, false, false, false, false, false, false, false, false, false, false] rfl rfl (any_of HT_.out (by kernel_rfl)) (fun _ _ _ h => h) (Or.inl ⟨by rfl, ?_⟩) ?_ ?_
                    rotate_left
                    · intro w'
                      go_simp
                      with_reducible rfl
                    rotate_left
                    · simp only [Act.put, List.setIfInBounds_toArray, List.set_cons_zero, List.set_cons_succ, i64_w, i32_w]
                      rfl
                    refine take_ (i := 6) (N := some 32) (v := ?_) (a' := ?_) #[true, true, true, true, true, true, true, false, false, false, false, false, false, false, false, false, false, false, false, false, false, false, false, false, false, false, false, false, false, false, false, false, false] rfl rfl (take_ofW HT_.out HW_.out (by kernel_rfl)) (fun _ _ _ h => h) (Or.inl ⟨by rfl, ?_⟩) hHeld ?_ ?_
                    rotate_left
                    · rintro w' ⟨s0, s1, s2, s3, s4, s5, s6, s7⟩
                      go_simp
                      with_reducible rfl
                    rotate_left
                    · simp only [Act.put, List.setIfInBounds_toArray, List.set_cons_zero, List.set_cons_succ, i64_w, i32_w]
                      rfl
                    refine pure_ (i := 7) (N := some 33) (v := ?_) (a' := ?_) #[true, true, true, true, true, true, true, true, false, false, false, false, false, false, false, false, false, false, false, false, false, false, false, false, false, false, false, false, false, false, false, false, false] rfl rfl (any_of HT_.out (by kernel_rfl)) (fun _ _ _ h => h) (Or.inl ⟨by rfl, ?_⟩) ?_ ?_
                    rotate_left
                    · intro w'
                      go_simp
                      with_reducible rfl
                    rotate_left
                    · simp only [Act.put, List.setIfInBounds_toArray, List.set_cons_zero, List.set_cons_succ, i64_w, i32_w]
                      rfl
                    refine pure_ (i := 8) (N := some 34) (v := ?_) (a' := ?_) #[true, true, true, true, true, true, true, true, true, false, false, false, false, false, false, false, false, false, false, false, false, false, false, false, false, false, false, false, false, false, false, false, false] rfl rfl (any_of HT_.out (by kernel_rfl)) (fun _ _ _ h => h) (Or.inl ⟨by rfl, ?_⟩) ?_ ?_
                    rotate_left
                    · intro w'
                      go_simp
                      with_reducible rfl
                    rotate_left
                    · simp only [Act.put, List.setIfInBounds_toArray, List.set_cons_zero, List.set_cons_succ, i64_w, i32_w]
                      rfl
                    refine pure_ (i := 9) (N := some 35) (v := ?_) (a' := ?_) #[true, true, true, true, true, true, true, true, true, true, false, false, false, false, false, false, false, false, false, false, false, false, false, false, false, false, false, false, false, false, false, false, false] rfl rfl (any_of HT_.out (by kernel_rfl)) (fun _ _ _ h => h) (Or.inl ⟨by rfl, ?_⟩) ?_ ?_
                    rotate_left
                    · intro w'
                      go_simp
                      with_reducible rfl
                    rotate_left
                    · simp only [Act.put, List.setIfInBounds_toArray, List.set_cons_zero, List.set_cons_succ, i64_w, i32_w]
                      rfl
                    refine pure_ (i := 10) (N := some 36) (v := ?_) (a' := ?_) #[true, true, true, true, true, true, true, true, true, true, true, false, false, false, false, false, false, false, false, false, false, false, false, false, false, false, false, false, false, false, false, false, false] rfl rfl (any_of HT_.out (by kernel_rfl)) (fun _ _ _ h => h) (Or.inl ⟨by rfl, ?_⟩) ?_ ?_
                    rotate_left
                    · intro w'
                      go_simp
                      with_reducible rfl
                    rotate_left
                    · simp only [Act.put, List.setIfInBounds_toArray, List.set_cons_zero, List.set_cons_succ, i64_w, i32_w]
                      rfl
                    refine pure_ (i := 11) (N := some 37) (v := ?_) (a' := ?_) #[true, true, true, true, true, true, true, true, true, true, true, true, false, false, false, false, false, false, false, false, false, false, false, false, false, false, false, false, false, false, false, false, false] rfl rfl (any_of HT_.out (by kernel_rfl)) (fun _ _ _ h => h) (Or.inl ⟨by rfl, ?_⟩) ?_ ?_
                    rotate_left
                    · intro w'
                      go_simp
                      with_reducible rfl
                    rotate_left
                    · simp only [Act.put, List.setIfInBounds_toArray, List.set_cons_zero, List.set_cons_succ, i64_w, i32_w]
                      rfl
                    refine pure_ (i := 12) (N := some 38) (v := ?_) (a' := ?_) #[true, true, true, true, true, true, true, true, true, true, true, true, true, false, false, false, false, false, false, false, false, false, false, false, false, false, false, false, false, false, false, false, false] rfl rfl (any_of HT_.out (by kernel_rfl)) (fun _ _ _ h => h) (Or.inl ⟨by rfl, ?_⟩) ?_ ?_
                    rotate_left
                    · intro w'
                      go_simp
                      with_reducible rfl
                    rotate_left
                    · simp only [Act.put, List.setIfInBounds_toArray, List.set_cons_zero, List.set_cons_succ, i64_w, i32_w]
                      rfl
                    refine pure_ (i := 13) (N := some 39) (v := ?_) (a' := ?_) #[true, true, true, true, true, true, true, true, true, true, true, true, true, true, false, false, false, false, false, false, false, false, false, false, false, false, false, false, false, false, false, false, false] rfl rfl (any_of HT_.out (by kernel_rfl)) (fun _ _ _ h => h) (Or.inl ⟨by rfl, ?_⟩) ?_ ?_
                    rotate_left
                    · intro w'
                      go_simp
                      with_reducible rfl
                    rotate_left
                    · simp only [Act.put, List.setIfInBounds_toArray, List.set_cons_zero, List.set_cons_succ, i64_w, i32_w]
                      rfl
                    refine pure_ (i := 14) (N := some 40) (v := ?_) (a' := ?_) #[true, true, true, true, true, true, true, true, true, true, true, true, true, true, true, false, false, false, false, false, false, false, false, false, false, false, false, false, false, false, false, false, false] rfl rfl (any_of HT_.out (by kernel_rfl)) (fun _ _ _ h => h) (Or.inl ⟨by rfl, ?_⟩) ?_ ?_
                    rotate_left
                    · intro w'
                      go_simp
                      with_reducible rfl
                    rotate_left
                    · simp only [Act.put, List.setIfInBounds_toArray, List.set_cons_zero, List.set_cons_succ, i64_w, i32_w]
                      rfl
                    refine pure_ (i := 15) (N := some 41) (v := ?_) (a' := ?_) #[true, true, true, true, true, true, true, true, true, true, true, true, true, true, true, true, false, false, false, false, false, false, false, false, false, false, false, false, false, false, false, false, false] rfl rfl (any_of HT_.out (by kernel_rfl)) (fun _ _ _ h => h) (Or.inl ⟨by rfl, ?_⟩) ?_ ?_
                    rotate_left
                    · intro w'
                      go_simp
                      with_reducible rfl
                    rotate_left
                    · simp only [Act.put, List.setIfInBounds_toArray, List.set_cons_zero, List.set_cons_succ, i64_w, i32_w]
                      rfl
                    refine pure_ (i := 16) (N := some 42) (v := ?_) (a' := ?_) #[true, true, true, true, true, true, true, true, true, true, true, true, true, true, true, true, true, false, false, false, false, false, false, false, false, false, false, false, false, false, false, false, false] rfl rfl (any_of HT_.out (by kernel_rfl)) (fun _ _ _ h => h) (Or.inl ⟨by rfl, ?_⟩) ?_ ?_
                    rotate_left
                    · intro w'
                      go_simp
                      with_reducible rfl
                    rotate_left
                    · simp only [Act.put, List.setIfInBounds_toArray, List.set_cons_zero, List.set_cons_succ, i64_w, i32_w]
                      rfl
                    refine take_ (i := 17) (N := some 43) (v := ?_) (a' := ?_) #[true, true, true, true, true, true, true, true, true, true, true, true, true, true, true, true, true, true, false, false, false, false, false, false, false, false, false, false, false, false, false, false, false] rfl rfl (take_ofW HT_.out HW_.out (by kernel_rfl)) (fun _ _ _ h => h) (Or.inl ⟨by rfl, ?_⟩) hHeld ?_ ?_
                    rotate_left
                    · rintro w' ⟨s0, s1, s2, s3, s4, s5, s6, s7⟩
                      go_simp
                      with_reducible rfl
                    rotate_left
                    · simp only [Act.put, List.setIfInBounds_toArray, List.set_cons_zero, List.set_cons_succ, i64_w, i32_w]
                      rfl
                    refine pure_ (i := 18) (N := some 44) (v := ?_) (a' := ?_) #[true, true, true, true, true, true, true, true, true, true, true, true, true, true, true, true, true, true, true, false, false, false, false, false, false, false, false, false, false, false, false, false, false] rfl rfl (any_of HT_.out (by kernel_rfl)) (fun _ _ _ h => h) (Or.inl ⟨by rfl, ?_⟩) ?_ ?_
                    rotate_left
                    · intro w'
                      go_simp
                      with_reducible rfl
                    rotate_left
                    · simp only [Act.put, List.setIfInBounds_toArray, List.set_cons_zero, List.set_cons_succ, i64_w, i32_w]
                      rfl
                    refine take_ (i := 19) (N := some 45) (v := ?_) (a' := ?_) #[true, true, true, true, true, true, true, true, true, true, true, true, true, true, true, true, true, true, true, true, false, false, false, false, false, false, false, false, false, false, false, false, false] rfl rfl (take_ofW HT_.out HW_.out (by kernel_rfl)) (fun _ _ _ h => h) (Or.inl ⟨by rfl, ?_⟩) hHeld ?_ ?_
                    rotate_left
                    · rintro w' ⟨s0, s1, s2, s3, s4, s5, s6, s7⟩
                      go_simp
                      with_reducible rfl
                    rotate_left
                    · simp only [Act.put, List.setIfInBounds_toArray, List.set_cons_zero, List.set_cons_succ, i64_w, i32_w]
                      rfl
                    refine pure_ (i := 20) (N := some 46) (v := ?_) (a' := ?_) #[true, true, true, true, true, true, true, true, true, true, true, true, true, true, true, true, true, true, true, true, true, false, false, false, false, false, false, false, false, false, false, false, false] rfl rfl (any_of HT_.out (by kernel_rfl)) (fun _ _ _ h => h) (Or.inl ⟨by rfl, ?_⟩) ?_ ?_
                    rotate_left
                    · intro w'
                      go_simp
                      with_reducible rfl
                    rotate_left
                    · simp only [Act.put, List.setIfInBounds_toArray, List.set_cons_zero, List.set_cons_succ, i64_w, i32_w]
                      rfl
                    refine take_ (i := 21) (N := some 47) (v := ?_) (a' := ?_) #[true, true, true, true, true, true, true, true, true, true, true, true, true, true, true, true, true, true, true, true, true, true, false, false, false, false, false, false, false, false, false, false, false] rfl rfl (take_ofW HT_.out HW_.out (by kernel_rfl)) (fun _ _ _ h => h) (Or.inl ⟨by rfl, ?_⟩) hHeld ?_ ?_
                    rotate_left
                    · rintro w' ⟨s0, s1, s2, s3, s4, s5, s6, s7⟩
                      go_simp
                      with_reducible rfl
                    rotate_left
                    · simp only [Act.put, List.setIfInBounds_toArray, List.set_cons_zero, List.set_cons_succ, i64_w, i32_w]
                      rfl
                    refine pure_ (i := 22) (N := some 48) (v := ?_) (a' := ?_) #[true, true, true, true, true, true, true, true, true, true, true, true, true, true, true, true, true, true, true, true, true, true, true, false, false, false, false, false, false, false, false, false, false] rfl rfl (any_of HT_.out (by kernel_rfl)) (fun _ _ _ h => h) (Or.inl ⟨by rfl, ?_⟩) ?_ ?_
                    rotate_left
                    · intro w'
                      go_simp
                      with_reducible rfl
                    rotate_left
                    · simp only [Act.put, List.setIfInBounds_toArray, List.set_cons_zero, List.set_cons_succ, i64_w, i32_w]
                      rfl
                    refine pure_ (i := 23) (N := some 49) (v := ?_) (a' := ?_) #[true, true, true, true, true, true, true, true, true, true, true, true, true, true, true, true, true, true, true, true, true, true, true, true, false, false, false, false, false, false, false, false, false] rfl rfl (any_of HT_.out (by kernel_rfl)) (fun _ _ _ h => h) (Or.inl ⟨by rfl, ?_⟩) ?_ ?_
                    rotate_left
                    · intro w'
                      go_simp
                      with_reducible rfl
                    rotate_left
                    · simp only [Act.put, List.setIfInBounds_toArray, List.set_cons_zero, List.set_cons_succ, i64_w, i32_w]
                      rfl
                    refine pure_ (i := 24) (N := some 50) (v := ?_) (a' := ?_) #[true, true, true, true, true, true, true, true, true, true, true, true, true, true, true, true, true, true, true, true, true, true, true, true, true, false, false, false, false, false, false, false, false] rfl rfl (any_of HT_.out (by kernel_rfl)) (fun _ _ _ h => h) (Or.inl ⟨by rfl, ?_⟩) ?_ ?_
                    rotate_left
                    · intro w'
                      go_simp
                      with_reducible rfl
                    rotate_left
                    · simp only [Act.put, List.setIfInBounds_toArray, List.set_cons_zero, List.set_cons_succ, i64_w, i32_w]
                      rfl
                    refine pure_ (i := 25) (N := some 51) (v := ?_) (a' := ?_) #[true, true, true, true, true, true, true, true, true, true, true, true, true, true, true, true, true, true, true, true, true, true, true, true, true, true, false, false, false, false, false, false, false] rfl rfl (any_of HT_.out (by kernel_rfl)) (fun _ _ _ h => h) (Or.inl ⟨by rfl, ?_⟩) ?_ ?_
                    rotate_left
                    · intro w'
                      go_simp
                      with_reducible rfl
                    rotate_left
                    · simp only [Act.put, List.setIfInBounds_toArray, List.set_cons_zero, List.set_cons_succ, i64_w, i32_w]
                      rfl
                    refine pure_ (i := 26) (N := some 52) (v := undef) (a' := ?_) #[true, true, true, true, true, true, true, true, true, true, true, true, true, true, true, true, true, true, true, true, true, true, true, true, true, true, true, false, false, false, false, false, false] rfl rfl (any_of HT_.out (by kernel_rfl)) (fun _ _ _ h => h) (Or.inr ⟨by rfl, rfl⟩) ?_ ?_
                    rotate_left
                    · simp only [Act.put, List.setIfInBounds_toArray, List.set_cons_zero, List.set_cons_succ, i64_w, i32_w]
                      rfl
                    refine pure_ (i := 27) (N := some 53) (v := undef) (a' := ?_) #[true, true, true, true, true, true, true, true, true, true, true, true, true, true, true, true, true, true, true, true, true, true, true, true, true, true, true, true, false, false, false, false, false] rfl rfl (any_of HT_.out (by kernel_rfl)) (fun _ _ _ h => h) (Or.inr ⟨by rfl, rfl⟩) ?_ ?_
                    rotate_left
                    · simp only [Act.put, List.setIfInBounds_toArray, List.set_cons_zero, List.set_cons_succ, i64_w, i32_w]
                      rfl
                    refine pure_ (i := 28) (N := some 54) (v := undef) (a' := ?_) #[true, true, true, true, true, true, true, true, true, true, true, true, true, true, true, true, true, true, true, true, true, true, true, true, true, true, true, true, true, false, false, false, false] rfl rfl (any_of HT_.out (by kernel_rfl)) (fun _ _ _ h => h) (Or.inr ⟨by rfl, rfl⟩) ?_ ?_
                    rotate_left
                    · simp only [Act.put, List.setIfInBounds_toArray, List.set_cons_zero, List.set_cons_succ, i64_w, i32_w]
                      rfl
                    refine pure_ (i := 29) (N := some 55) (v := undef) (a' := ?_) #[true, true, true, true, true, true, true, true, true, true, true, true, true, true, true, true, true, true, true, true, true, true, true, true, true, true, true, true, true, true, false, false, false] rfl rfl (any_of HT_.out (by kernel_rfl)) (fun _ _ _ h => h) (Or.inr ⟨by rfl, rfl⟩) ?_ ?_
                    rotate_left
                    · simp only [Act.put, List.setIfInBounds_toArray, List.set_cons_zero, List.set_cons_succ, i64_w, i32_w]
                      rfl
                    refine pure_ (i := 30) (N := some 56) (v := undef) (a' := ?_) #[true, true, true, true, true, true, true, true, true, true, true, true, true, true, true, true, true, true, true, true, true, true, true, true, true, true, true, true, true, true, true, false, false] rfl rfl (any_of HT_.out (by kernel_rfl)) (fun _ _ _ h => h) (Or.inr ⟨by rfl, rfl⟩) ?_ ?_
                    rotate_left
                    · simp only [Act.put, List.setIfInBounds_toArray, List.set_cons_zero, List.set_cons_succ, i64_w, i32_w]
                      rfl
                    refine pure_ (i := 31) (N := some 57) (v := undef) (a' := ?_) #[true, true, true, true, true, true, true, true, true, true, true, true, true, true, true, true, true, true, true, true, true, true, true, true, true, true, true, true, true, true, true, true, false] rfl rfl (any_of HT_.out (by kernel_rfl)) (fun _ _ _ h => h) (Or.inr ⟨by rfl, rfl⟩) ?_ ?_
                    rotate_left
                    · simp only [Act.put, List.setIfInBounds_toArray, List.set_cons_zero, List.set_cons_succ, i64_w, i32_w]
                      rfl
                    refine pure_ (i := 32) (N := some 58) (v := ?_) (a' := ?_) #[true, true, true, true, true, true, true, true, true, true, true, true, true, true, true, true, true, true, true, true, true, true, true, true, true, true, true, true, true, true, true, true, true] rfl rfl (any_of HT_.out (by kernel_rfl)) (fun _ _ _ h => h) (Or.inl ⟨by rfl, ?_⟩) ?_ ?_
                    rotate_left
                    · intro w'
                      go_simp
                      with_reducible rfl
                    rotate_left
                    · simp only [Act.put, List.setIfInBounds_toArray, List.set_cons_zero, List.set_cons_succ, i64_w, i32_w]
                      rfl
                    refine done_ (done_of HT_.out (by kernel_rfl)) ?_
                    go_wp2_with fail
                    go_meet
                    case rel => exact ⟨congrArg Value.bool HV.out.symm, ⟨BZ.out⟩⟩
                · have hj0b : decide ((0 : Int) < (j : Int)) = false := decide_eq_false hj0
                  have hj0c : decide (0 < j) = false := decide_eq_false (by omega)
                  have HV := Aside0.mk (show (!(honestAt n l es j)) = decide (m < 0) by
                    have hz2 : rd (truthAt n l es (j + 1)) (rd_T56 es (j : Int)).f1 = 0 := by
                      rw [HRE.out, show j = 0 by omega, truthAt, List.take_zero, List.foldl_nil, row0]
                      simp only [rd, List.getD_eq_getElem?_getD, List.getElem?_replicate]
                      split <;> rfl
                    rw [honestAt_zero (by rw [HX.out]; exact HO.out) hz2]; exact HMN.out)
                  clear hj0
                  refine start_ (n := 33) (S := fun w' => w'.cell? ⟨gl, 0, none⟩ = some (.int .i64 n) ∧ w'.cell? ⟨gl, 1, none⟩ = some (.slice A l.length c) ∧ w'.cell? ⟨ge, 0, none⟩ = some (.int .i64 x.f0) ∧ w'.cell? ⟨ge, 1, none⟩ = some (.int .i64 x.f1) ∧ w'.cell? ⟨ge, 2, none⟩ = some (.int .i64 x.f2) ∧ w'.cell? (adt.add j) = some (.slice Ar (truthAt n l es (j + 1)).length cr)) (ds := []) #[false, false, false, false, false, false, false, false, false, false, false, false, false, false, false, false, false, false, false, false, false, false, false, false, false, false, false, false, false, false, false, false, false] (by kernel_rfl) rfl rfl ⟨hcl0, hcl1, hce0, hce1, hce2, hcy⟩ (fun hHeld => ?_); refine with_tabW ho_tab7 ho_bits7 (fun HT_ HW_ => ?_)
                  refine take_ (i := 0) (N := some 26) (v := ?_) (a' := ?_) #[true, false, false, false, false, false, false, false, false, false, false, false, false, false, false, false, false, false, false, false, false, false, false, false, false, false, false, false, false, false, false, false, false] rfl rfl (take_ofW HT_.out HW_.out (by kernel_rfl)) (fun _ _ _ h => h) (Or.inl ⟨by rfl, ?_⟩) hHeld ?_ ?_
                  rotate_left
                  · rintro w' ⟨s0, s1, s2, s3, s4, s5⟩
                    go_simp
                    with_reducible rfl
                  rotate_left
                  · simp only [Act.put, List.setIfInBounds_toArray, List.set_cons_zero, List.set_cons_succ, i64_w, i32_w]
                    rfl
                  refine take_ (i := 1) (N := some 27) (v := ?_) (a' := ?_) #[true, true, false, false, false, false, false, false, false, false, false, false, false, false, false, false, false, false, false, false, false, false, false, false, false, false, false, false, false, false, false, false, false] rfl rfl (take_ofW HT_.out HW_.out (by kernel_rfl)) (fun _ _ _ h => h) (Or.inl ⟨by rfl, ?_⟩) hHeld ?_ ?_
                  rotate_left
                  · rintro w' ⟨s0, s1, s2, s3, s4, s5⟩
                    go_simp
                    with_reducible rfl
                  rotate_left
                  · simp only [Act.put, List.setIfInBounds_toArray, List.set_cons_zero, List.set_cons_succ, i64_w, i32_w]
                    rfl
                  refine one_ (i := 2) (N := some 28) #[true, true, true, false, false, false, false, false, false, false, false, false, false, false, false, false, false, false, false, false, false, false, false, false, false, false, false, false, false, false, false, false, false] rfl rfl (one_of HT_.out (by kernel_rfl)) (by decide) (fun K hK => ?_)
                  refine goes_ Try.func36 (by kernel_rfl) rfl #[.agg #[.int .i64 n, .slice A l.length c], .agg #[.int .i64 x.f0, .int .i64 x.f1, .int .i64 x.f2]] (by rfl) rfl rfl (by (try simp only [List.map_toArray, List.map_cons, List.map_nil]); first | done | rfl | (simp only [List.length_drop, List.length_take]; rfl)) ?_
                  with_reducible refine (ev_at x.f0 x.f1 x.f2 HO.out (Kd.C_below HR.out BD.out) HC.out).mono ?_; rintro e w9 ⟨rfl, hb⟩
                  refine ⟨_, rfl, ?_⟩
                  have BZ := Aside0.mk (below_step BR.out hb)
                  refine hK.out _ _ ⟨pw_cell_below hb hHeld.1, pw_cell_below hb hHeld.2.1, pw_cell_below hb hHeld.2.2.1, pw_cell_below hb hHeld.2.2.2.1, pw_cell_below hb hHeld.2.2.2.2.1, pw_cell_below hb hHeld.2.2.2.2.2⟩ (fun hHeld => ?_)
                  clear hK K
                  refine norm_ (a' := ?_) ?_ ?_
                  rotate_left
                  · show Act.put _ (some 28) _ = _
                    simp only [Act.put, List.setIfInBounds_toArray, List.set_cons_zero, List.set_cons_succ, i64_w, i32_w]
                    rfl
                  refine pure_ (i := 3) (N := some 29) (v := ?_) (a' := ?_) #[true, true, true, true, false, false, false, false, false, false, false, false, false, false, false, false, false, false, false, false, false, false, false, false, false, false, false, false, false, false, false, false, false] rfl rfl (any_of HT_.out (by kernel_rfl)) (fun _ _ _ h => h) (Or.inl ⟨by rfl, ?_⟩) ?_ ?_
                  rotate_left
                  · intro w'
                    go_simp
                    with_reducible rfl
                  rotate_left
                  · simp only [Act.put, List.setIfInBounds_toArray, List.set_cons_zero, List.set_cons_succ, i64_w, i32_w]
                    rfl
                  refine pure_ (i := 4) (N := some 30) (v := ?_) (a' := ?_) #[true, true, true, true, true, false, false, false, false, false, false, false, false, false, false, false, false, false, false, false, false, false, false, false, false, false, false, false, false, false, false, false, false] rfl rfl (any_of HT_.out (by kernel_rfl)) (fun _ _ _ h => h) (Or.inl ⟨by rfl, ?_⟩) ?_ ?_
                  rotate_left
                  · intro w'
                    go_simp
                    with_reducible rfl
                  rotate_left
                  · simp only [Act.put, List.setIfInBounds_toArray, List.set_cons_zero, List.set_cons_succ, i64_w, i32_w]
                    rfl
                  refine pure_ (i := 5) (N := some 31) (v := ?_) (a' := ?_) #[true, true, true, true, true, true, false, false, false, false, false, false, false, false, false, false, false, false, false, false, false, false, false, false, false, false, false, false, false, false, false, false, false] rfl rfl (any_of HT_.out (by kernel_rfl)) (fun _ _ _ h => h) (Or.inl ⟨by rfl, ?_⟩) ?_ ?_
                  rotate_left
                  · intro w'
                    go_simp
                    with_reducible rfl
                  rotate_left
                  · simp only [Act.put, List.setIfInBounds_toArray, List.set_cons_zero, List.set_cons_succ, i64_w, i32_w]
                    rfl
                  refine take_ (i := 6) (N := some 32) (v := ?_) (a' := ?_) #[true, true, true, true, true, true, true, false, false, false, false, false, false, false, false, false, false, false, false, false, false, false, false, false, false, false, false, false, false, false, false, false, false] rfl rfl (take_ofW HT_.out HW_.out (by kernel_rfl)) (fun _ _ _ h => h) (Or.inl ⟨by rfl, ?_⟩) hHeld ?_ ?_
                  rotate_left
                  · rintro w' ⟨s0, s1, s2, s3, s4, s5⟩
                    go_simp
                    with_reducible rfl
                  rotate_left
                  · simp only [Act.put, List.setIfInBounds_toArray, List.set_cons_zero, List.set_cons_succ, i64_w, i32_w]
                    rfl
                  refine pure_ (i := 7) (N := some 33) (v := ?_) (a' := ?_) #[true, true, true, true, true, true, true, true, false, false, false, false, false, false, false, false, false, false, false, false, false, false, false, false, false, false, false, false, false, false, false, false, false] rfl rfl (any_of HT_.out (by kernel_rfl)) (fun _ _ _ h => h) (Or.inl ⟨by rfl, ?_⟩) ?_ ?_
                  rotate_left
                  · intro w'
                    go_simp
                    with_reducible rfl
                  rotate_left
                  · simp only [Act.put, List.setIfInBounds_toArray, List.set_cons_zero, List.set_cons_succ, i64_w, i32_w]
                    rfl
                  refine pure_ (i := 8) (N := some 34) (v := ?_) (a' := ?_) #[true, true, true, true, true, true, true, true, true, false, false, false, false, false, false, false, false, false, false, false, false, false, false, false, false, false, false, false, false, false, false, false, false] rfl rfl (any_of HT_.out (by kernel_rfl)) (fun _ _ _ h => h) (Or.inl ⟨by rfl, ?_⟩) ?_ ?_
                  rotate_left
                  · intro w'
                    go_simp
                    with_reducible rfl
                  rotate_left
                  · simp only [Act.put, List.setIfInBounds_toArray, List.set_cons_zero, List.set_cons_succ, i64_w, i32_w]
                    rfl
                  refine pure_ (i := 9) (N := some 35) (v := ?_) (a' := ?_) #[true, true, true, true, true, true, true, true, true, true, false, false, false, false, false, false, false, false, false, false, false, false, false, false, false, false, false, false, false, false, false, false, false] rfl rfl (any_of HT_.out (by kernel_rfl)) (fun _ _ _ h => h) (Or.inl ⟨by rfl, ?_⟩) ?_ ?_
                  rotate_left
                  · intro w'
                    go_simp
                    with_reducible rfl
                  rotate_left
                  · simp only [Act.put, List.setIfInBounds_toArray, List.set_cons_zero, List.set_cons_succ, i64_w, i32_w]
                    rfl
                  refine pure_ (i := 10) (N := some 36) (v := ?_) (a' := ?_) #[true, true, true, true, true, true, true, true, true, true, true, false, false, false, false, false, false, false, false, false, false, false, false, false, false, false, false, false, false, false, false, false, false] rfl rfl (any_of HT_.out (by kernel_rfl)) (fun _ _ _ h => h) (Or.inl ⟨by rfl, ?_⟩) ?_ ?_
                  rotate_left
                  · intro w'
                    go_simp
                    with_reducible rfl
                  rotate_left
                  · simp only [Act.put, List.setIfInBounds_toArray, List.set_cons_zero, List.set_cons_succ, i64_w, i32_w]
                    rfl
                  refine pure_ (i := 11) (N := some 37) (v := ?_) (a' := ?_) #[true, true, true, true, true, true, true, true, true, true, true, true, false, false, false, false, false, false, false, false, false, false, false, false, false, false, false, false, false, false, false, false, false] rfl rfl (any_of HT_.out (by kernel_rfl)) (fun _ _ _ h => h) (Or.inl ⟨by rfl, ?_⟩) ?_ ?_
                  rotate_left
                  · intro w'
                    go_simp
                    with_reducible rfl
                  rotate_left
                  · simp only [Act.put, List.setIfInBounds_toArray, List.set_cons_zero, List.set_cons_succ, i64_w, i32_w]
                    rfl
                  refine pure_ (i := 12) (N := some 38) (v := ?_) (a' := ?_) #[true, true, true, true, true, true, true, true, true, true, true, true, true, false, false, false, false, false, false, false, false, false, false, false, false, false, false, false, false, false, false, false, false] rfl rfl (any_of HT_.out (by kernel_rfl)) (fun _ _ _ h => h) (Or.inl ⟨by rfl, ?_⟩) ?_ ?_
                  rotate_left
                  · intro w'
                    go_simp
                    with_reducible rfl
                  rotate_left
                  · simp only [Act.put, List.setIfInBounds_toArray, List.set_cons_zero, List.set_cons_succ, i64_w, i32_w]
                    rfl
                  refine pure_ (i := 13) (N := some 39) (v := undef) (a' := ?_) #[true, true, true, true, true, true, true, true, true, true, true, true, true, true, false, false, false, false, false, false, false, false, false, false, false, false, false, false, false, false, false, false, false] rfl rfl (any_of HT_.out (by kernel_rfl)) (fun _ _ _ h => h) (Or.inr ⟨by rfl, rfl⟩) ?_ ?_
                  rotate_left
                  · simp only [Act.put, List.setIfInBounds_toArray, List.set_cons_zero, List.set_cons_succ, i64_w, i32_w]
                    rfl
                  refine pure_ (i := 14) (N := some 40) (v := undef) (a' := ?_) #[true, true, true, true, true, true, true, true, true, true, true, true, true, true, true, false, false, false, false, false, false, false, false, false, false, false, false, false, false, false, false, false, false] rfl rfl (any_of HT_.out (by kernel_rfl)) (fun _ _ _ h => h) (Or.inr ⟨by rfl, rfl⟩) ?_ ?_
                  rotate_left
                  · simp only [Act.put, List.setIfInBounds_toArray, List.set_cons_zero, List.set_cons_succ, i64_w, i32_w]
                    rfl
                  refine pure_ (i := 15) (N := some 41) (v := undef) (a' := ?_) #[true, true, true, true, true, true, true, true, true, true, true, true, true, true, true, true, false, false, false, false, false, false, false, false, false, false, false, false, false, false, false, false, false] rfl rfl (any_of HT_.out (by kernel_rfl)) (fun _ _ _ h => h) (Or.inr ⟨by rfl, rfl⟩) ?_ ?_
                  rotate_left
                  · simp only [Act.put, List.setIfInBounds_toArray, List.set_cons_zero, List.set_cons_succ, i64_w, i32_w]
                    rfl
                  refine pure_ (i := 16) (N := some 42) (v := undef) (a' := ?_) #[true, true, true, true, true, true, true, true, true, true, true, true, true, true, true, true, true, false, false, false, false, false, false, false, false, false, false, false, false, false, false, false, false] rfl rfl (any_of HT_.out (by kernel_rfl)) (fun _ _ _ h => h) (Or.inr ⟨by rfl, rfl⟩) ?_ ?_
                  rotate_left
                  · simp only [Act.put, List.setIfInBounds_toArray, List.set_cons_zero, List.set_cons_succ, i64_w, i32_w]
                    rfl
                  refine pure_ (i := 17) (N := some 43) (v := undef) (a' := ?_) #[true, true, true, true, true, true, true, true, true, true, true, true, true, true, true, true, true, true, false, false, false, false, false, false, false, false, false, false, false, false, false, false, false] rfl rfl (any_of HT_.out (by kernel_rfl)) (fun _ _ _ h => h) (Or.inr ⟨by rfl, rfl⟩) ?_ ?_
                  rotate_left
                  · simp only [Act.put, List.setIfInBounds_toArray, List.set_cons_zero, List.set_cons_succ, i64_w, i32_w]
                    rfl
                  refine pure_ (i := 18) (N := some 44) (v := undef) (a' := ?_) #[true, true, true, true, true, true, true, true, true, true, true, true, true, true, true, true, true, true, true, false, false, false, false, false, false, false, false, false, false, false, false, false, false] rfl rfl (any_of HT_.out (by kernel_rfl)) (fun _ _ _ h => h) (Or.inr ⟨by rfl, rfl⟩) ?_ ?_
                  rotate_left
                  · simp only [Act.put, List.setIfInBounds_toArray, List.set_cons_zero, List.set_cons_succ, i64_w, i32_w]
                    rfl
                  refine pure_ (i := 19) (N := some 45) (v := undef) (a' := ?_) #[true, true, true, true, true, true, true, true, true, true, true, true, true, true, true, true, true, true, true, true, false, false, false, false, false, false, false, false, false, false, false, false, false] rfl rfl (any_of HT_.out (by kernel_rfl)) (fun _ _ _ h => h) (Or.inr ⟨by rfl, rfl⟩) ?_ ?_
                  rotate_left
                  · simp only [Act.put, List.setIfInBounds_toArray, List.set_cons_zero, List.set_cons_succ, i64_w, i32_w]
                    rfl
                  refine pure_ (i := 20) (N := some 46) (v := undef) (a' := ?_) #[true, true, true, true, true, true, true, true, true, true, true, true, true, true, true, true, true, true, true, true, true, false, false, false, false, false, false, false, false, false, false, false, false] rfl rfl (any_of HT_.out (by kernel_rfl)) (fun _ _ _ h => h) (Or.inr ⟨by rfl, rfl⟩) ?_ ?_
                  rotate_left
                  · simp only [Act.put, List.setIfInBounds_toArray, List.set_cons_zero, List.set_cons_succ, i64_w, i32_w]
                    rfl
                  refine pure_ (i := 21) (N := some 47) (v := undef) (a' := ?_) #[true, true, true, true, true, true, true, true, true, true, true, true, true, true, true, true, true, true, true, true, true, true, false, false, false, false, false, false, false, false, false, false, false] rfl rfl (any_of HT_.out (by kernel_rfl)) (fun _ _ _ h => h) (Or.inr ⟨by rfl, rfl⟩) ?_ ?_
                  rotate_left
                  · simp only [Act.put, List.setIfInBounds_toArray, List.set_cons_zero, List.set_cons_succ, i64_w, i32_w]
                    rfl
                  refine pure_ (i := 22) (N := some 48) (v := undef) (a' := ?_) #[true, true, true, true, true, true, true, true, true, true, true, true, true, true, true, true, true, true, true, true, true, true, true, false, false, false, false, false, false, false, false, false, false] rfl rfl (any_of HT_.out (by kernel_rfl)) (fun _ _ _ h => h) (Or.inr ⟨by rfl, rfl⟩) ?_ ?_
                  rotate_left
                  · simp only [Act.put, List.setIfInBounds_toArray, List.set_cons_zero, List.set_cons_succ, i64_w, i32_w]
                    rfl
                  refine pure_ (i := 23) (N := some 49) (v := ?_) (a' := ?_) #[true, true, true, true, true, true, true, true, true, true, true, true, true, true, true, true, true, true, true, true, true, true, true, true, false, false, false, false, false, false, false, false, false] rfl rfl (any_of HT_.out (by kernel_rfl)) (fun _ _ _ h => h) (Or.inl ⟨by rfl, ?_⟩) ?_ ?_
                  rotate_left
                  · intro w'
                    go_simp
                    with_reducible rfl
                  rotate_left
                  · simp only [Act.put, List.setIfInBounds_toArray, List.set_cons_zero, List.set_cons_succ, i64_w, i32_w]
                    rfl
                  refine pure_ (i := 24) (N := some 50) (v := ?_) (a' := ?_) #[true, true, true, true, true, true, true, true, true, true, true, true, true, true, true, true, true, true, true, true, true, true, true, true, true, false, false, false, false, false, false, false, false] rfl rfl (any_of HT_.out (by kernel_rfl)) (fun _ _ _ h => h) (Or.inl ⟨by rfl, ?_⟩) ?_ ?_
                  rotate_left
                  · intro w'
                    go_simp
                    with_reducible rfl
                  rotate_left
                  · simp only [Act.put, List.setIfInBounds_toArray, List.set_cons_zero, List.set_cons_succ, i64_w, i32_w]
                    rfl
                  refine pure_ (i := 25) (N := some 51) (v := ?_) (a' := ?_) #[true, true, true, true, true, true, true, true, true, true, true, true, true, true, true, true, true, true, true, true, true, true, true, true, true, true, false, false, false, false, false, false, false] rfl rfl (any_of HT_.out (by kernel_rfl)) (fun _ _ _ h => h) (Or.inl ⟨by rfl, ?_⟩) ?_ ?_
                  rotate_left
                  · intro w'
                    go_simp
                    with_reducible rfl
                  rotate_left
                  · simp only [Act.put, List.setIfInBounds_toArray, List.set_cons_zero, List.set_cons_succ, i64_w, i32_w]
                    rfl
                  refine pure_ (i := 26) (N := some 52) (v := ?_) (a' := ?_) #[true, true, true, true, true, true, true, true, true, true, true, true, true, true, true, true, true, true, true, true, true, true, true, true, true, true, true, false, false, false, false, false, false] rfl rfl (any_of HT_.out (by kernel_rfl)) (fun _ _ _ h => h) (Or.inl ⟨by rfl, ?_⟩) ?_ ?_
                  rotate_left
                  · intro w'
                    go_simp
                    with_reducible rfl
                  rotate_left
                  · simp only [Act.put, List.setIfInBounds_toArray, List.set_cons_zero, List.set_cons_succ, i64_w, i32_w]
                    rfl
                  refine pure_ (i := 27) (N := some 53) (v := ?_) (a' := ?_) #[true, true, true, true, true, true, true, true, true, true, true, true, true, true, true, true, true, true, true, true, true, true, true, true, true, true, true, true, false, false, false, false, false] rfl rfl (any_of HT_.out (by kernel_rfl)) (fun _ _ _ h => h) (Or.inl ⟨by rfl, ?_⟩) ?_ ?_
                  rotate_left
                  · intro w'
                    go_simp
                    with_reducible rfl
                  rotate_left
                  · simp only [Act.put, List.setIfInBounds_toArray, List.set_cons_zero, List.set_cons_succ, i64_w, i32_w]
                    rfl
                  refine pure_ (i := 28) (N := some 54) (v := ?_) (a' := ?_) #[true, true, true, true, true, true, true, true, true, true, true, true, true, true, true, true, true, true, true, true, true, true, true, true, true, true, true, true, true, false, false, false, false] rfl rfl (any_of HT_.out (by kernel_rfl)) (fun _ _ _ h => h) (Or.inl ⟨by rfl, ?_⟩) ?_ ?_
                  rotate_left
                  · intro w'
                    go_simp
                    with_reducible rfl
                  rotate_left
                  · simp only [Act.put, List.setIfInBounds_toArray, List.set_cons_zero, List.set_cons_succ, i64_w, i32_w]
                    rfl
                  refine take_ (i := 29) (N := some 55) (v := ?_) (a' := ?_) #[true, true, true, true, true, true, true, true, true, true, true, true, true, true, true, true, true, true, true, true, true, true, true, true, true, true, true, true, true, true, false, false, false] rfl rfl (take_ofW HT_.out HW_.out (by kernel_rfl)) (fun _ _ _ h => h) (Or.inl ⟨by rfl, ?_⟩) hHeld ?_ ?_
                  rotate_left
                  · rintro w' ⟨s0, s1, s2, s3, s4, s5⟩
                    go_simp
                    with_reducible rfl
                  rotate_left
                  · simp only [Act.put, List.setIfInBounds_toArray, List.set_cons_zero, List.set_cons_succ, i64_w, i32_w]
                    rfl
                  refine one_ (i := 30) (N := some 56) #[true, true, true, true, true, true, true, true, true, true, true, true, true, true, true, true, true, true, true, true, true, true, true, true, true, true, true, true, true, true, true, false, false] rfl rfl (one_of HT_.out (by kernel_rfl)) (by decide) (fun K hK => ?_)
                  refine goes_ Try.func106 (by kernel_rfl) rfl #[.slice Ar (truthAt n l es (j + 1)).length cr] (by rfl) rfl rfl (by (try simp only [List.map_toArray, List.map_cons, List.map_nil]); first | done | rfl | (simp only [List.length_drop, List.length_take]; rfl)) ?_
                  with_reducible refine (min_at HM.out (Kd.C_below CR.out BZ.out) LR.out H0.out H63.out).mono ?_; rintro e w10 ⟨rfl, hb⟩
                  refine ⟨_, rfl, ?_⟩
                  have BZ := Aside0.mk (below_step BZ.out hb)
                  refine hK.out _ _ ⟨pw_cell_below hb hHeld.1, pw_cell_below hb hHeld.2.1, pw_cell_below hb hHeld.2.2.1, pw_cell_below hb hHeld.2.2.2.1, pw_cell_below hb hHeld.2.2.2.2.1, pw_cell_below hb hHeld.2.2.2.2.2⟩ (fun hHeld => ?_)
                  clear hK K
                  refine norm_ (a' := ?_) ?_ ?_
                  rotate_left
                  · show Act.put _ (some 56) _ = _
                    simp only [Act.put, List.setIfInBounds_toArray, List.set_cons_zero, List.set_cons_succ, i64_w, i32_w]
                    rfl
                  refine pure_ (i := 31) (N := some 57) (v := ?_) (a' := ?_) #[true, true, true, true, true, true, true, true, true, true, true, true, true, true, true, true, true, true, true, true, true, true, true, true, true, true, true, true, true, true, true, true, false] rfl rfl (any_of HT_.out (by kernel_rfl)) (fun _ _ _ h => h) (Or.inl ⟨by rfl, ?_⟩) ?_ ?_
                  rotate_left
                  · intro w'
                    go_simp
                    with_reducible rfl
                  rotate_left
                  · simp only [Act.put, List.setIfInBounds_toArray, List.set_cons_zero, List.set_cons_succ, i64_w, i32_w]
                    rfl
                  refine pure_ (i := 32) (N := some 58) (v := ?_) (a' := ?_) #[true, true, true, true, true, true, true, true, true, true, true, true, true, true, true, true, true, true, true, true, true, true, true, true, true, true, true, true, true, true, true, true, true] rfl rfl (any_of HT_.out (by kernel_rfl)) (fun _ _ _ h => h) (Or.inl ⟨by rfl, ?_⟩) ?_ ?_
                  rotate_left
                  · intro w'
                    go_simp
                    with_reducible rfl
                  rotate_left
                  · simp only [Act.put, List.setIfInBounds_toArray, List.set_cons_zero, List.set_cons_succ, i64_w, i32_w]
                    rfl
                  refine done_ (done_of HT_.out (by kernel_rfl)) ?_
                  go_wp2_with fail
                  go_meet
                  case rel => exact ⟨congrArg Value.bool HV.out.symm, ⟨BZ.out⟩⟩
              · have h5b : (x.f0 == 5) = false := beq_eq_false_iff_ne.mpr h5
                have HV := Aside0.mk (show (!(honestAt n l es j)) = decide (m < 0) by rw [honestAt_other (by rw [HX.out]; exact HO.out) (by rw [HX.out]; exact h5)]; exact HMN.out)
                clear h5
                refine start_ (n := 33) (S := fun w' => w'.cell? ⟨gl, 0, none⟩ = some (.int .i64 n) ∧ w'.cell? ⟨gl, 1, none⟩ = some (.slice A l.length c) ∧ w'.cell? ⟨ge, 0, none⟩ = some (.int .i64 x.f0) ∧ w'.cell? ⟨ge, 1, none⟩ = some (.int .i64 x.f1) ∧ w'.cell? ⟨ge, 2, none⟩ = some (.int .i64 x.f2) ∧ w'.cell? (adt.add j) = some (.slice Ar (truthAt n l es (j + 1)).length cr)) (ds := []) #[false, false, false, false, false, false, false, false, false, false, false, false, false, false, false, false, false, false, false, false, false, false, false, false, false, false, false, false, false, false, false, false, false] (by kernel_rfl) rfl rfl ⟨hcl0, hcl1, hce0, hce1, hce2, hcy⟩ (fun hHeld => ?_); refine with_tabW ho_tab7 ho_bits7 (fun HT_ HW_ => ?_)
                refine take_ (i := 0) (N := some 26) (v := ?_) (a' := ?_) #[true, false, false, false, false, false, false, false, false, false, false, false, false, false, false, false, false, false, false, false, false, false, false, false, false, false, false, false, false, false, false, false, false] rfl rfl (take_ofW HT_.out HW_.out (by kernel_rfl)) (fun _ _ _ h => h) (Or.inl ⟨by rfl, ?_⟩) hHeld ?_ ?_
                rotate_left
                · rintro w' ⟨s0, s1, s2, s3, s4, s5⟩
                  go_simp
                  with_reducible rfl
                rotate_left
                · simp only [Act.put, List.setIfInBounds_toArray, List.set_cons_zero, List.set_cons_succ, i64_w, i32_w]
                  rfl
                refine take_ (i := 1) (N := some 27) (v := ?_) (a' := ?_) #[true, true, false, false, false, false, false, false, false, false, false, false, false, false, false, false, false, false, false, false, false, false, false, false, false, false, false, false, false, false, false, false, false] rfl rfl (take_ofW HT_.out HW_.out (by kernel_rfl)) (fun _ _ _ h => h) (Or.inl ⟨by rfl, ?_⟩) hHeld ?_ ?_
                rotate_left
                · rintro w' ⟨s0, s1, s2, s3, s4, s5⟩
                  go_simp
                  with_reducible rfl
                rotate_left
                · simp only [Act.put, List.setIfInBounds_toArray, List.set_cons_zero, List.set_cons_succ, i64_w, i32_w]
                  rfl
                refine one_ (i := 2) (N := some 28) #[true, true, true, false, false, false, false, false, false, false, false, false, false, false, false, false, false, false, false, false, false, false, false, false, false, false, false, false, false, false, false, false, false] rfl rfl (one_of HT_.out (by kernel_rfl)) (by decide) (fun K hK => ?_)
                refine goes_ Try.func36 (by kernel_rfl) rfl #[.agg #[.int .i64 n, .slice A l.length c], .agg #[.int .i64 x.f0, .int .i64 x.f1, .int .i64 x.f2]] (by rfl) rfl rfl (by (try simp only [List.map_toArray, List.map_cons, List.map_nil]); first | done | rfl | (simp only [List.length_drop, List.length_take]; rfl)) ?_
                with_reducible refine (ev_at x.f0 x.f1 x.f2 HO.out (Kd.C_below HR.out BD.out) HC.out).mono ?_; rintro e w9 ⟨rfl, hb⟩
                refine ⟨_, rfl, ?_⟩
                have BZ := Aside0.mk (below_step BR.out hb)
                refine hK.out _ _ ⟨pw_cell_below hb hHeld.1, pw_cell_below hb hHeld.2.1, pw_cell_below hb hHeld.2.2.1, pw_cell_below hb hHeld.2.2.2.1, pw_cell_below hb hHeld.2.2.2.2.1, pw_cell_below hb hHeld.2.2.2.2.2⟩ (fun hHeld => ?_)
                clear hK K
                refine norm_ (a' := ?_) ?_ ?_
                rotate_left
                · show Act.put _ (some 28) _ = _
                  simp only [Act.put, List.setIfInBounds_toArray, List.set_cons_zero, List.set_cons_succ, i64_w, i32_w]
                  rfl
                refine pure_ (i := 3) (N := some 29) (v := ?_) (a' := ?_) #[true, true, true, true, false, false, false, false, false, false, false, false, false, false, false, false, false, false, false, false, false, false, false, false, false, false, false, false, false, false, false, false, false] rfl rfl (any_of HT_.out (by kernel_rfl)) (fun _ _ _ h => h) (Or.inl ⟨by rfl, ?_⟩) ?_ ?_
                rotate_left
                · intro w'
                  go_simp
                  with_reducible rfl
                rotate_left
                · simp only [Act.put, List.setIfInBounds_toArray, List.set_cons_zero, List.set_cons_succ, i64_w, i32_w]
                  rfl
                refine pure_ (i := 4) (N := some 30) (v := ?_) (a' := ?_) #[true, true, true, true, true, false, false, false, false, false, false, false, false, false, false, false, false, false, false, false, false, false, false, false, false, false, false, false, false, false, false, false, false] rfl rfl (any_of HT_.out (by kernel_rfl)) (fun _ _ _ h => h) (Or.inl ⟨by rfl, ?_⟩) ?_ ?_
                rotate_left
                · intro w'
                  go_simp
                  with_reducible rfl
                rotate_left
                · simp only [Act.put, List.setIfInBounds_toArray, List.set_cons_zero, List.set_cons_succ, i64_w, i32_w]
                  rfl
                refine pure_ (i := 5) (N := some 31) (v := ?_) (a' := ?_) #[true, true, true, true, true, true, false, false, false, false, false, false, false, false, false, false, false, false, false, false, false, false, false, false, false, false, false, false, false, false, false, false, false] rfl rfl (any_of HT_.out (by kernel_rfl)) (fun _ _ _ h => h) (Or.inl ⟨by rfl, ?_⟩) ?_ ?_
                rotate_left
                · intro w'
                  go_simp
                  with_reducible rfl
                rotate_left
                · simp only [Act.put, List.setIfInBounds_toArray, List.set_cons_zero, List.set_cons_succ, i64_w, i32_w]
                  rfl
                refine take_ (i := 6) (N := some 32) (v := ?_) (a' := ?_) #[true, true, true, true, true, true, true, false, false, false, false, false, false, false, false, false, false, false, false, false, false, false, false, false, false, false, false, false, false, false, false, false, false] rfl rfl (take_ofW HT_.out HW_.out (by kernel_rfl)) (fun _ _ _ h => h) (Or.inl ⟨by rfl, ?_⟩) hHeld ?_ ?_
                rotate_left
                · rintro w' ⟨s0, s1, s2, s3, s4, s5⟩
                  go_simp
                  with_reducible rfl
                rotate_left
                · simp only [Act.put, List.setIfInBounds_toArray, List.set_cons_zero, List.set_cons_succ, i64_w, i32_w]
                  rfl
                refine pure_ (i := 7) (N := some 33) (v := ?_) (a' := ?_) #[true, true, true, true, true, true, true, true, false, false, false, false, false, false, false, false, false, false, false, false, false, false, false, false, false, false, false, false, false, false, false, false, false] rfl rfl (any_of HT_.out (by kernel_rfl)) (fun _ _ _ h => h) (Or.inl ⟨by rfl, ?_⟩) ?_ ?_
                rotate_left
                · intro w'
                  go_simp
                  with_reducible rfl
                rotate_left
                · simp only [Act.put, List.setIfInBounds_toArray, List.set_cons_zero, List.set_cons_succ, i64_w, i32_w]
                  rfl
                refine pure_ (i := 8) (N := some 34) (v := ?_) (a' := ?_) #[true, true, true, true, true, true, true, true, true, false, false, false, false, false, false, false, false, false, false, false, false, false, false, false, false, false, false, false, false, false, false, false, false] rfl rfl (any_of HT_.out (by kernel_rfl)) (fun _ _ _ h => h) (Or.inl ⟨by rfl, ?_⟩) ?_ ?_
                rotate_left
                · intro w'
                  go_simp
                  with_reducible rfl
                rotate_left
                · simp only [Act.put, List.setIfInBounds_toArray, List.set_cons_zero, List.set_cons_succ, i64_w, i32_w]
                  rfl
                refine pure_ (i := 9) (N := some 35) (v := undef) (a' := ?_) #[true, true, true, true, true, true, true, true, true, true, false, false, false, false, false, false, false, false, false, false, false, false, false, false, false, false, false, false, false, false, false, false, false] rfl rfl (any_of HT_.out (by kernel_rfl)) (fun _ _ _ h => h) (Or.inr ⟨by rfl, rfl⟩) ?_ ?_
                rotate_left
                · simp only [Act.put, List.setIfInBounds_toArray, List.set_cons_zero, List.set_cons_succ, i64_w, i32_w]
                  rfl
                refine pure_ (i := 10) (N := some 36) (v := undef) (a' := ?_) #[true, true, true, true, true, true, true, true, true, true, true, false, false, false, false, false, false, false, false, false, false, false, false, false, false, false, false, false, false, false, false, false, false] rfl rfl (any_of HT_.out (by kernel_rfl)) (fun _ _ _ h => h) (Or.inr ⟨by rfl, rfl⟩) ?_ ?_
                rotate_left
                · simp only [Act.put, List.setIfInBounds_toArray, List.set_cons_zero, List.set_cons_succ, i64_w, i32_w]
                  rfl
                refine pure_ (i := 11) (N := some 37) (v := ?_) (a' := ?_) #[true, true, true, true, true, true, true, true, true, true, true, true, false, false, false, false, false, false, false, false, false, false, false, false, false, false, false, false, false, false, false, false, false] rfl rfl (any_of HT_.out (by kernel_rfl)) (fun _ _ _ h => h) (Or.inl ⟨by rfl, ?_⟩) ?_ ?_
                rotate_left
                · intro w'
                  go_simp
                  with_reducible rfl
                rotate_left
                · simp only [Act.put, List.setIfInBounds_toArray, List.set_cons_zero, List.set_cons_succ, i64_w, i32_w]
                  rfl
                refine pure_ (i := 12) (N := some 38) (v := ?_) (a' := ?_) #[true, true, true, true, true, true, true, true, true, true, true, true, true, false, false, false, false, false, false, false, false, false, false, false, false, false, false, false, false, false, false, false, false] rfl rfl (any_of HT_.out (by kernel_rfl)) (fun _ _ _ h => h) (Or.inl ⟨by rfl, ?_⟩) ?_ ?_
                rotate_left
                · intro w'
                  go_simp
                  with_reducible rfl
                rotate_left
                · simp only [Act.put, List.setIfInBounds_toArray, List.set_cons_zero, List.set_cons_succ, i64_w, i32_w]
                  rfl
                refine pure_ (i := 13) (N := some 39) (v := undef) (a' := ?_) #[true, true, true, true, true, true, true, true, true, true, true, true, true, true, false, false, false, false, false, false, false, false, false, false, false, false, false, false, false, false, false, false, false] rfl rfl (any_of HT_.out (by kernel_rfl)) (fun _ _ _ h => h) (Or.inr ⟨by rfl, rfl⟩) ?_ ?_
                rotate_left
                · simp only [Act.put, List.setIfInBounds_toArray, List.set_cons_zero, List.set_cons_succ, i64_w, i32_w]
                  rfl
                refine pure_ (i := 14) (N := some 40) (v := undef) (a' := ?_) #[true, true, true, true, true, true, true, true, true, true, true, true, true, true, true, false, false, false, false, false, false, false, false, false, false, false, false, false, false, false, false, false, false] rfl rfl (any_of HT_.out (by kernel_rfl)) (fun _ _ _ h => h) (Or.inr ⟨by rfl, rfl⟩) ?_ ?_
                rotate_left
                · simp only [Act.put, List.setIfInBounds_toArray, List.set_cons_zero, List.set_cons_succ, i64_w, i32_w]
                  rfl
                refine pure_ (i := 15) (N := some 41) (v := undef) (a' := ?_) #[true, true, true, true, true, true, true, true, true, true, true, true, true, true, true, true, false, false, false, false, false, false, false, false, false, false, false, false, false, false, false, false, false] rfl rfl (any_of HT_.out (by kernel_rfl)) (fun _ _ _ h => h) (Or.inr ⟨by rfl, rfl⟩) ?_ ?_
                rotate_left
                · simp only [Act.put, List.setIfInBounds_toArray, List.set_cons_zero, List.set_cons_succ, i64_w, i32_w]
                  rfl
                refine pure_ (i := 16) (N := some 42) (v := undef) (a' := ?_) #[true, true, true, true, true, true, true, true, true, true, true, true, true, true, true, true, true, false, false, false, false, false, false, false, false, false, false, false, false, false, false, false, false] rfl rfl (any_of HT_.out (by kernel_rfl)) (fun _ _ _ h => h) (Or.inr ⟨by rfl, rfl⟩) ?_ ?_
                rotate_left
                · simp only [Act.put, List.setIfInBounds_toArray, List.set_cons_zero, List.set_cons_succ, i64_w, i32_w]
                  rfl
                refine pure_ (i := 17) (N := some 43) (v := undef) (a' := ?_) #[true, true, true, true, true, true, true, true, true, true, true, true, true, true, true, true, true, true, false, false, false, false, false, false, false, false, false, false, false, false, false, false, false] rfl rfl (any_of HT_.out (by kernel_rfl)) (fun _ _ _ h => h) (Or.inr ⟨by rfl, rfl⟩) ?_ ?_
                rotate_left
                · simp only [Act.put, List.setIfInBounds_toArray, List.set_cons_zero, List.set_cons_succ, i64_w, i32_w]
                  rfl
                refine pure_ (i := 18) (N := some 44) (v := undef) (a' := ?_) #[true, true, true, true, true, true, true, true, true, true, true, true, true, true, true, true, true, true, true, false, false, false, false, false, false, false, false, false, false, false, false, false, false] rfl rfl (any_of HT_.out (by kernel_rfl)) (fun _ _ _ h => h) (Or.inr ⟨by rfl, rfl⟩) ?_ ?_
                rotate_left
                · simp only [Act.put, List.setIfInBounds_toArray, List.set_cons_zero, List.set_cons_succ, i64_w, i32_w]
                  rfl
                refine pure_ (i := 19) (N := some 45) (v := undef) (a' := ?_) #[true, true, true, true, true, true, true, true, true, true, true, true, true, true, true, true, true, true, true, true, false, false, false, false, false, false, false, false, false, false, false, false, false] rfl rfl (any_of HT_.out (by kernel_rfl)) (fun _ _ _ h => h) (Or.inr ⟨by rfl, rfl⟩) ?_ ?_
                rotate_left
                · simp only [Act.put, List.setIfInBounds_toArray, List.set_cons_zero, List.set_cons_succ, i64_w, i32_w]
                  rfl
                refine pure_ (i := 20) (N := some 46) (v := undef) (a' := ?_) #[true, true, true, true, true, true, true, true, true, true, true, true, true, true, true, true, true, true, true, true, true, false, false, false, false, false, false, false, false, false, false, false, false] rfl rfl (any_of HT_.out (by kernel_rfl)) (fun _ _ _ h => h) (Or.inr ⟨by rfl, rfl⟩) ?_ ?_
                rotate_left
                · simp only [Act.put, List.setIfInBounds_toArray, List.set_cons_zero, List.set_cons_succ, i64_w, i32_w]
                  rfl
                refine pure_ (i := 21) (N := some 47) (v := undef) (a' := ?_) #[true, true, true, true, true, true, true, true, true, true, true, true, true, true, true, true, true, true, true, true, true, true, false, false, false, false, false, false, false, false, false, false, false] rfl rfl (any_of HT_.out (by kernel_rfl)) (fun _ _ _ h => h) (Or.inr ⟨by rfl, rfl⟩) ?_ ?_
                rotate_left
                · simp only [Act.put, List.setIfInBounds_toArray, List.set_cons_zero, List.set_cons_succ, i64_w, i32_w]
                  rfl
                refine pure_ (i := 22) (N := some 48) (v := undef) (a' := ?_) #[true, true, true, true, true, true, true, true, true, true, true, true, true, true, true, true, true, true, true, true, true, true, true, false, false, false, false, false, false, false, false, false, false] rfl rfl (any_of HT_.out (by kernel_rfl)) (fun _ _ _ h => h) (Or.inr ⟨by rfl, rfl⟩) ?_ ?_
                rotate_left
                · simp only [Act.put, List.setIfInBounds_toArray, List.set_cons_zero, List.set_cons_succ, i64_w, i32_w]
                  rfl
                refine pure_ (i := 23) (N := some 49) (v := ?_) (a' := ?_) #[true, true, true, true, true, true, true, true, true, true, true, true, true, true, true, true, true, true, true, true, true, true, true, true, false, false, false, false, false, false, false, false, false] rfl rfl (any_of HT_.out (by kernel_rfl)) (fun _ _ _ h => h) (Or.inl ⟨by rfl, ?_⟩) ?_ ?_
                rotate_left
                · intro w'
                  go_simp
                  with_reducible rfl
                rotate_left
                · simp only [Act.put, List.setIfInBounds_toArray, List.set_cons_zero, List.set_cons_succ, i64_w, i32_w]
                  rfl
                refine pure_ (i := 24) (N := some 50) (v := ?_) (a' := ?_) #[true, true, true, true, true, true, true, true, true, true, true, true, true, true, true, true, true, true, true, true, true, true, true, true, true, false, false, false, false, false, false, false, false] rfl rfl (any_of HT_.out (by kernel_rfl)) (fun _ _ _ h => h) (Or.inl ⟨by rfl, ?_⟩) ?_ ?_
                rotate_left
                · intro w'
                  go_simp
                  with_reducible rfl
                rotate_left
                · simp only [Act.put, List.setIfInBounds_toArray, List.set_cons_zero, List.set_cons_succ, i64_w, i32_w]
                  rfl
                refine pure_ (i := 25) (N := some 51) (v := ?_) (a' := ?_) #[true, true, true, true, true, true, true, true, true, true, true, true, true, true, true, true, true, true, true, true, true, true, true, true, true, true, false, false, false, false, false, false, false] rfl rfl (any_of HT_.out (by kernel_rfl)) (fun _ _ _ h => h) (Or.inl ⟨by rfl, ?_⟩) ?_ ?_
                rotate_left
                · intro w'
                  go_simp
                  with_reducible rfl
                rotate_left
                · simp only [Act.put, List.setIfInBounds_toArray, List.set_cons_zero, List.set_cons_succ, i64_w, i32_w]
                  rfl
                refine pure_ (i := 26) (N := some 52) (v := ?_) (a' := ?_) #[true, true, true, true, true, true, true, true, true, true, true, true, true, true, true, true, true, true, true, true, true, true, true, true, true, true, true, false, false, false, false, false, false] rfl rfl (any_of HT_.out (by kernel_rfl)) (fun _ _ _ h => h) (Or.inl ⟨by rfl, ?_⟩) ?_ ?_
                rotate_left
                · intro w'
                  go_simp
                  with_reducible rfl
                rotate_left
                · simp only [Act.put, List.setIfInBounds_toArray, List.set_cons_zero, List.set_cons_succ, i64_w, i32_w]
                  rfl
                refine pure_ (i := 27) (N := some 53) (v := ?_) (a' := ?_) #[true, true, true, true, true, true, true, true, true, true, true, true, true, true, true, true, true, true, true, true, true, true, true, true, true, true, true, true, false, false, false, false, false] rfl rfl (any_of HT_.out (by kernel_rfl)) (fun _ _ _ h => h) (Or.inl ⟨by rfl, ?_⟩) ?_ ?_
                rotate_left
                · intro w'
                  go_simp
                  with_reducible rfl
                rotate_left
                · simp only [Act.put, List.setIfInBounds_toArray, List.set_cons_zero, List.set_cons_succ, i64_w, i32_w]
                  rfl
                refine pure_ (i := 28) (N := some 54) (v := ?_) (a' := ?_) #[true, true, true, true, true, true, true, true, true, true, true, true, true, true, true, true, true, true, true, true, true, true, true, true, true, true, true, true, true, false, false, false, false] rfl rfl (any_of HT_.out (by kernel_rfl)) (fun _ _ _ h => h) (Or.inl ⟨by rfl, ?_⟩) ?_ ?_
                rotate_left
                · intro w'
                  go_simp
                  with_reducible rfl
                rotate_left
                · simp only [Act.put, List.setIfInBounds_toArray, List.set_cons_zero, List.set_cons_succ, i64_w, i32_w]
                  rfl
                refine take_ (i := 29) (N := some 55) (v := ?_) (a' := ?_) #[true, true, true, true, true, true, true, true, true, true, true, true, true, true, true, true, true, true, true, true, true, true, true, true, true, true, true, true, true, true, false, false, false] rfl rfl (take_ofW HT_.out HW_.out (by kernel_rfl)) (fun _ _ _ h => h) (Or.inl ⟨by rfl, ?_⟩) hHeld ?_ ?_
                rotate_left
                · rintro w' ⟨s0, s1, s2, s3, s4, s5⟩
                  go_simp
                  with_reducible rfl
                rotate_left
                · simp only [Act.put, List.setIfInBounds_toArray, List.set_cons_zero, List.set_cons_succ, i64_w, i32_w]
                  rfl
                refine one_ (i := 30) (N := some 56) #[true, true, true, true, true, true, true, true, true, true, true, true, true, true, true, true, true, true, true, true, true, true, true, true, true, true, true, true, true, true, true, false, false] rfl rfl (one_of HT_.out (by kernel_rfl)) (by decide) (fun K hK => ?_)
                refine goes_ Try.func106 (by kernel_rfl) rfl #[.slice Ar (truthAt n l es (j + 1)).length cr] (by rfl) rfl rfl (by (try simp only [List.map_toArray, List.map_cons, List.map_nil]); first | done | rfl | (simp only [List.length_drop, List.length_take]; rfl)) ?_
                with_reducible refine (min_at HM.out (Kd.C_below CR.out BZ.out) LR.out H0.out H63.out).mono ?_; rintro e w10 ⟨rfl, hb⟩
                refine ⟨_, rfl, ?_⟩
                have BZ := Aside0.mk (below_step BZ.out hb)
                refine hK.out _ _ ⟨pw_cell_below hb hHeld.1, pw_cell_below hb hHeld.2.1, pw_cell_below hb hHeld.2.2.1, pw_cell_below hb hHeld.2.2.2.1, pw_cell_below hb hHeld.2.2.2.2.1, pw_cell_below hb hHeld.2.2.2.2.2⟩ (fun hHeld => ?_)
                clear hK K
                refine norm_ (a' := ?_) ?_ ?_
                rotate_left
                · show Act.put _ (some 56) _ = _
                  simp only [Act.put, List.setIfInBounds_toArray, List.set_cons_zero, List.set_cons_succ, i64_w, i32_w]
                  rfl
                refine pure_ (i := 31) (N := some 57) (v := ?_) (a' := ?_) #[true, true, true, true, true, true, true, true, true, true, true, true, true, true, true, true, true, true, true, true, true, true, true, true, true, true, true, true, true, true, true, true, false] rfl rfl (any_of HT_.out (by kernel_rfl)) (fun _ _ _ h => h) (Or.inl ⟨by rfl, ?_⟩) ?_ ?_
                rotate_left
                · intro w'
                  go_simp
                  with_reducible rfl
                rotate_left
                · simp only [Act.put, List.setIfInBounds_toArray, List.set_cons_zero, List.set_cons_succ, i64_w, i32_w]
                  rfl
                refine pure_ (i := 32) (N := some 58) (v := ?_) (a' := ?_) #[true, true, true, true, true, true, true, true, true, true, true, true, true, true, true, true, true, true, true, true, true, true, true, true, true, true, true, true, true, true, true, true, true] rfl rfl (any_of HT_.out (by kernel_rfl)) (fun _ _ _ h => h) (Or.inl ⟨by rfl, ?_⟩) ?_ ?_
                rotate_left
                · intro w'
                  go_simp
                  with_reducible rfl
                rotate_left
                · simp only [Act.put, List.setIfInBounds_toArray, List.set_cons_zero, List.set_cons_succ, i64_w, i32_w]
                  rfl
                refine done_ (done_of HT_.out (by kernel_rfl)) ?_
                go_wp2_with fail
                go_meet
                case rel => exact ⟨congrArg Value.bool HV.out.symm, ⟨BZ.out⟩⟩
          case rest =>
            obtain ⟨rfl, BW⟩ := hcut
            cases hh : honestAt n l es j with
            | true =>
              have HH := Aside0.mk hh
              clear hh
              go_wp2
              go_roundg gk
              case measure => omega
              case rel => exact ⟨j + 1, congrArg (Value.int .i64) (wrap_succ (by have := HE.out; omega)), ⟨by have := HJ.out; omega⟩, ⟨by rw [HF.out, honestFrom, HH.out, Bool.true_and]⟩, ⟨ST.out.up BW.out⟩⟩
            | false =>
              have HH := Aside0.mk hh
              clear hh
              go_wp2
              go_ret
              exact ⟨ret_b (show false = _ by rw [honest, HF.out, honestFrom, HH.out, Bool.false_and, Bool.and_false]), (ST.out.up BW.out).hB⟩
        · have hlt' : decide ((j : Int) < (es.length : Int)) = false := decide_eq_false (by omega)
          go_wp2
          go_ret
          have h0 : gk = 0 := by have := HJ.out; omega
          subst h0
          exact ⟨ret_b (show true = _ by rw [honest, HF.out, decide_eq_true HL.out, decide_eq_true HE.out]; rfl), ST.out.hB⟩
    · skip
      have b0 : (layoutOk n l != 0) = false := bne_eq_false_iff_eq.mpr hl
      have b1 : decide ((es.length : Int) > 2000) = true := decide_eq_true (by omega)
      have HV := Aside0.mk (show false = honest n l es by rw [honest, decide_eq_false he, Bool.and_false, Bool.false_and])
      clear hl he
      go_enter Try.func51, Try.ntmps51
      go_wp2_with (first | ((with_reducible refine gate_dst (N := 2) rfl ?_); refine box_event ?hg (N := 2) ?hd (cs := #[.int .i64 n, .slice A l.length c]) (t := 30) ?hr ?_; (case hd => rfl); (case hg => rfl); (case hr => first | (go_simp; done) | (go_simp; rfl)); intro gl el wl kl bl; have hcz0 := (blk_cell kl 0).trans (show (#[Value.int .i64 n, .slice A l.length c])[0]? = _ from rfl); have hcz1 := (blk_cell kl 1).trans (show (#[Value.int .i64 n, .slice A l.length c])[1]? = _ from rfl); have KL := Aside0.mk kl; have BL := Aside0.mk bl; have GL := Aside0.mk (show w.heap.size ≤ gl by rw [el]; exact Nat.le_refl _); clear kl bl el) | (go_at_call 25; refine (lay_is (Kd.C_below HR.out BL.out) HC.out).mono ?_; rintro e w1 ⟨rfl, hb⟩; have KL1 := Aside0.mk (blk_below KL.out hb); have BL1 := Aside0.mk (below_step BL.out hb); clear hb; have hc10 := (blk_cell KL1.out 0).trans (show (#[Value.int .i64 n, .slice A l.length c])[0]? = _ from rfl); have hc11 := (blk_cell KL1.out 1).trans (show (#[Value.int .i64 n, .slice A l.length c])[1]? = _ from rfl)))
      go_ret
      exact ⟨ret_b HV.out, BL1.out⟩
  · skip
    have b0 : (layoutOk n l != 0) = true := bne_iff_ne.mpr hl
    have HV := Aside0.mk (show false = honest n l es by rw [honest, decide_eq_false hl, Bool.false_and, Bool.false_and])
    clear hl
    go_enter Try.func51, Try.ntmps51
    go_wp2_with (first | ((with_reducible refine gate_dst (N := 2) rfl ?_); refine box_event ?hg (N := 2) ?hd (cs := #[.int .i64 n, .slice A l.length c]) (t := 30) ?hr ?_; (case hd => rfl); (case hg => rfl); (case hr => first | (go_simp; done) | (go_simp; rfl)); intro gl el wl kl bl; have hcz0 := (blk_cell kl 0).trans (show (#[Value.int .i64 n, .slice A l.length c])[0]? = _ from rfl); have hcz1 := (blk_cell kl 1).trans (show (#[Value.int .i64 n, .slice A l.length c])[1]? = _ from rfl); have KL := Aside0.mk kl; have BL := Aside0.mk bl; have GL := Aside0.mk (show w.heap.size ≤ gl by rw [el]; exact Nat.le_refl _); clear kl bl el) | (go_at_call 25; refine (lay_is (Kd.C_below HR.out BL.out) HC.out).mono ?_; rintro e w1 ⟨rfl, hb⟩; have KL1 := Aside0.mk (blk_below KL.out hb); have BL1 := Aside0.mk (below_step BL.out hb); clear hb; have hc10 := (blk_cell KL1.out 0).trans (show (#[Value.int .i64 n, .slice A l.length c])[0]? = _ from rfl); have hc11 := (blk_cell KL1.out 1).trans (show (#[Value.int .i64 n, .slice A l.length c])[1]? = _ from rfl)))
    go_ret
    exact ⟨ret_b HV.out, BL1.out⟩
end Go.Proofs.Ytpdnabhpkdchjaa.P
namespace Go.Proofs.Ytpdnabhpkdchjaa.P
open Go.RowKit Go.Proofs.YtpdnabhpkdchjaaW.PrintWords Go.Proofs.YtpdnabhpkdchjaaW.PrintLast Go.Proofs.YtpdnabhpkdchjaaW.PrintMore
set_option linter.unusedVariables false
theorem R_off {α : Type} {d : Kd α} {e : Nat} {w : World} {base : Nat} {ok : Nat → Prop} {v : Value} {xs : List α} (hE : d.E = []) (h : d.R e w base ok v xs) {p : Addr} (hne : some p.block ≠ v.ownBlock) (u : Value) : d.R e (w.setCell p u) base (fun _ => True) v xs :=
  Kd.R_mono (Kd.R_far (Kd.R_tight hE h) (fun k hk hp => hne (hp ▸ hk)) u) (fun _ _ => trivial)
theorem R_on {α : Type} {d : Kd α} {e : Nat} {w w' : World} {base : Nat} {ok : Nat → Prop} {v : Value} {xs : List α} (hE : d.E = []) (h : d.R e w base ok v xs) {row : Option Nat} (hg : w.grownBy w' row) (hne : row ≠ v.ownBlock) : d.R e w' base (fun _ => True) v xs :=
  Kd.R_mono (Kd.R_step (Kd.R_tight hE h) (fun k hk hlt => hg.block k hlt (fun c => hne (c ▸ hk)))) (fun _ _ => trivial)
theorem R_up {α : Type} {d : Kd α} {e : Nat} {w w' : World} {base : Nat} {ok : Nat → Prop} {v : Value} {xs : List α} (h : d.R e w base ok v xs) (hb : Below w.heap.size w w') : d.R e w' base (fun _ => True) v xs :=
  Kd.R_mono (Kd.R_step h (fun k hk hlt => hb.block k hlt)) (fun _ _ => trivial)
end Go.Proofs.Ytpdnabhpkdchjaa.P
namespace Go.Proofs.Ytpdnabhpkdchjaa.P
open Go.RowKit Go.Proofs.YtpdnabhpkdchjaaW.PrintWords Go.Proofs.YtpdnabhpkdchjaaW.PrintLast Go.Proofs.YtpdnabhpkdchjaaW.PrintMore
attribute [local go_sem ↓] Go.wp_at_zero Go.wp_at_succ
set_option linter.unusedVariables false
set_option linter.unusedSimpArgs false
structure DoSt (w0 w : World) (gl gs ge gd : Nat) (lv sv ev dv : List Value) (v1 v2 : Value) (ss : List S50) (dd : List Bool) : Prop where
  hl : w.heap[gl]? = some (.cells lv.toArray 30 (0, 0))
  hs : w.heap[gs]? = some (.cells sv.toArray 46 (0, 0))
  he : w.heap[ge]? = some (.cells ev.toArray 56 (0, 0))
  hd : w.heap[gd]? = some (.cells dv.toArray 48 (0, 0))
  H1 : Kd.R k50 50 w w0.heap.size (fun _ => True) v1 ss
  H2 : Kd.R Kd.bool 4 w w0.heap.size (fun _ => True) v2 dd
  hB : Below w0.heap.size w0 w
  gle : w0.heap.size ≤ gl
  gse : w0.heap.size ≤ gs
  gee : w0.heap.size ≤ ge
  gde : w0.heap.size ≤ gd
theorem DoSt.begin {w0 w : World} {gl gs ge gd : Nat} {lv ev dv : List Value} {x0 x1 x2 v0 v1 v2 : Value} {ss : List S50} {dd : List Bool}
    (hl : w.heap[gl]? = some (.cells lv.toArray 30 (0, 0))) (hs : w.heap[gs]? = some (.cells #[x0, x1, x2] 46 (0, 0))) (he : w.heap[ge]? = some (.cells ev.toArray 56 (0, 0))) (hd : w.heap[gd]? = some (.cells dv.toArray 48 (0, 0)))
    (H1 : Kd.R k50 50 w w0.heap.size (fun _ => True) v1 ss) (H2 : Kd.R Kd.bool 4 w w0.heap.size (fun _ => True) v2 dd) (hB : Below w0.heap.size w0 w)
    (gle : w0.heap.size ≤ gl) (gse : w0.heap.size ≤ gs) (gee : w0.heap.size ≤ ge) (gde : w0.heap.size ≤ gd) (n1 : gl ≠ gs) (n2 : ge ≠ gs) (n3 : gd ≠ gs) :
    DoSt w0 (((w.setCell ⟨gs, 0, none⟩ v0).setCell ⟨gs, 1, none⟩ v1).setCell ⟨gs, 2, none⟩ v2) gl gs ge gd lv [v0, v1, v2] ev dv v1 v2 ss dd where
  hl := blk_far (blk_far (blk_far hl n1 _) n1 _) n1 _
  hs := blk_put (blk_put (blk_put hs 0 v0 rfl) 1 v1 rfl) 2 v2 rfl
  he := blk_far (blk_far (blk_far he n2 _) n2 _) n2 _
  hd := blk_far (blk_far (blk_far hd n3 _) n3 _) n3 _
  H1 := R_off rfl (R_off rfl (R_off rfl H1 (Kd.R_ne H1 hs (by decide)) _) (Kd.R_ne H1 hs (by decide)) _) (Kd.R_ne H1 hs (by decide)) _
  H2 := R_off rfl (R_off rfl (R_off rfl H2 (Kd.R_ne H2 hs (by decide)) _) (Kd.R_ne H2 hs (by decide)) _) (Kd.R_ne H2 hs (by decide)) _
  hB := below_set (below_set (below_set hB gse) gse) gse
  gle := gle
  gse := gse
  gee := gee
  gde := gde
theorem cnt_any (s b : Int) (bo : Bool) (g gr n c : Nat) (v2 : Value) (l : List S50) (w : World) (base : Nat) (ok : Nat → Prop) (h1 : s < n)
    (hb : w.heap[g]? = some (.cells #[.bool bo, .slice (some ⟨gr, 0, none⟩) n c, v2] 46 (0, 0))) (HO : Kd.R k50 50 w base ok (.slice (some ⟨gr, 0, none⟩) n c) l) :
    Calls Try.prog 130 #[.int .i64 s, .int .i64 b, .pointer (some ⟨g, 0, none⟩)] w fun e w' => e = .returned (.tuple #[]) ∧ Kd.R k50 50 w' base ok (.slice (some ⟨gr, 0, none⟩) n c) (addS l s b) ∧ w.grownBy w' (some gr) := by
  by_cases h0 : s < 0
  · refine (cnt_out s b _ w h0).mono ?_
    rintro e w' ⟨he, rfl⟩
    exact ⟨he, by rw [addS, if_pos h0]; exact HO, World.grownBy.refl w _⟩
  · rw [addS, if_neg h0]
    exact cnt_calls s b bo g gr n c v2 l w base ok (by omega) h1 hb HO
theorem lose_any (s : Int) (bo : Bool) (g gr n c : Nat) (v2 : Value) (l : List S50) (w : World) (base : Nat) (ok : Nat → Prop) (h1 : s < n)
    (hb : w.heap[g]? = some (.cells #[.bool bo, .slice (some ⟨gr, 0, none⟩) n c, v2] 46 (0, 0))) (HO : Kd.R k50 50 w base ok (.slice (some ⟨gr, 0, none⟩) n c) l) :
    Calls Try.prog 131 #[.int .i64 s, .pointer (some ⟨g, 0, none⟩)] w fun e w' => e = .returned (.tuple #[]) ∧ Kd.R k50 50 w' base ok (.slice (some ⟨gr, 0, none⟩) n c) (loseAt l s) ∧ w.grownBy w' (some gr) := by
  by_cases h0 : s < 0
  · refine (lose_none s _ w h0).mono ?_
    rintro e w' ⟨he, rfl⟩
    exact ⟨he, by rw [loseAt, if_pos h0]; exact HO, World.grownBy.refl w _⟩
  · rw [loseAt, if_neg h0]
    exact lose_calls s bo g gr n c v2 l w base ok (by omega) h1 hb HO
theorem told_at {n : Int} {A : Option Addr} {c : Nat} {l : List S88} {b : Bool} {A1 : Option Addr} {c1 : Nat} {ss : List S50} {A2 : Option Addr} {c2 : Nat} {dd : List Bool} {w : World} (i : Int) (hr : Kd.C k88 w A l.length l) (hc : l.length ≤ c) (hr1 : Kd.C k50 w A1 ss.length ss) (hc1 : ss.length ≤ c1) (hr2 : Kd.C Kd.bool w A2 dd.length dd) (hc2 : dd.length ≤ c2)
    (hl : l.length ≤ 1048576) (hd : dd.length = l.length) (h0 : 0 ≤ i) (h1 : i < ss.length) :
    Calls Try.prog 97 #[.agg #[.int .i64 n, .slice A l.length c], .agg #[.bool b, .slice A1 ss.length c1, .slice A2 dd.length c2], .int .i64 i] w fun e w' => e = .returned (.int .i64 (toldC l dd i (rd_T50 ss i))) ∧ Below w.heap.size w w' := by
  obtain ⟨k, h⟩ := (implTold_ev n l dd b ss i hl hd h0 h1).rounds
  exact impl_told.calls k n A c l b A1 c1 ss A2 c2 dd i _ w hr hc hr1 hc1 hr2 hc2 h
theorem dead_at {n : Int} {A : Option Addr} {c : Nat} {l : List S88} {b : Bool} {A1 : Option Addr} {c1 : Nat} {ss : List S50} {A2 : Option Addr} {c2 : Nat} {dd : List Bool} {w : World} {x : Bool} (i : Int) (hx : deadAt l dd i = x) (hr : Kd.C k88 w A l.length l) (hc : l.length ≤ c) (hr1 : Kd.C k50 w A1 ss.length ss) (hc1 : ss.length ≤ c1) (hr2 : Kd.C Kd.bool w A2 dd.length dd) (hc2 : dd.length ≤ c2)
    (hl : l.length ≤ 1048576) (hd : dd.length = l.length) :
    Calls Try.prog 98 #[.agg #[.int .i64 n, .slice A l.length c], .agg #[.bool b, .slice A1 ss.length c1, .slice A2 dd.length c2], .int .i64 i] w fun e w' => e = .returned (.bool x) ∧ Below w.heap.size w w' := by
  obtain ⟨k, h⟩ := (implDead_ev n l dd b ss i hl hd).rounds
  rw [← hx]
  exact impl_dead.calls k n A c l b A1 c1 ss A2 c2 dd i _ w hr hc hr1 hc1 hr2 hc2 h
theorem bool_at {w : World} {base : Nat} {ok : Nat → Prop} {g n c : Nat} {dd : List Bool} (h : Kd.R Kd.bool 4 w base ok (.slice (some ⟨g, 0, none⟩) n c) dd) (i : Int) (h0 : 0 ≤ i) (h1 : i < n) :
    w.cell? ⟨g, i.toNat, none⟩ = some (.bool (rdOf false dd i)) ∧ w.frozen? ⟨g, i.toNat, none⟩ = false := by
  obtain ⟨ce, hcl, hM, hcc, hfr⟩ := Kd.R_elem h false i h0 h1
  have hM0 : ce = [.bool (dd.getD i.toNat false)] := hM
  subst hM0
  have e : i.toNat * Kd.bool.sz + 0 = i.toNat := by show i.toNat * 1 + 0 = _; omega
  have q1 := hcc 0 _ rfl
  have q2 := hfr 0
  rw [e] at q1 q2
  exact ⟨q1, q2⟩
theorem own_ge {α : Type} {d : Kd α} {e : Nat} {w : World} {base : Nat} {ok : Nat → Prop} {g n c : Nat} {xs : List α} (h : d.R e w base ok (.slice (some ⟨g, 0, none⟩) n c) xs) : base ≤ g := by
  rcases Kd.R_base2 h with h | ⟨k, hk, hb⟩
  · cases h
  · cases hk; exact hb
section
variable {w0 w w' : World} {gl gs ge gd : Nat} {lv sv ev dv : List Value} {v1 v2 : Value} {ss ss' : List S50} {dd dd' : List Bool}
theorem DoSt.sec {gr m cr : Nat} (h : DoSt w0 w gl gs ge gd lv sv ev dv (.slice (some ⟨gr, 0, none⟩) m cr) v2 ss dd) (H1 : Kd.R k50 50 w' w0.heap.size (fun _ => True) (.slice (some ⟨gr, 0, none⟩) m cr) ss') (hg : w.grownBy w' (some gr)) :
    DoSt w0 w' gl gs ge gd lv sv ev dv (.slice (some ⟨gr, 0, none⟩) m cr) v2 ss' dd where
  hl := blk_grown h.hl hg (Kd.R_ne h.H1 h.hl (by decide))
  hs := blk_grown h.hs hg (Kd.R_ne h.H1 h.hs (by decide))
  he := blk_grown h.he hg (Kd.R_ne h.H1 h.he (by decide))
  hd := blk_grown h.hd hg (Kd.R_ne h.H1 h.hd (by decide))
  H1 := H1
  H2 := R_on rfl h.H2 hg (by
    obtain ⟨inner, ho⟩ := Kd.R_own h.H1
    obtain ⟨cells, hc⟩ := own_typed ho gr rfl
    exact Kd.R_ne h.H2 hc (by decide))
  hB := pw_below_grown h.hB _ h.hB.size hg (fun k hk => by cases hk; exact own_ge h.H1)
  gle := h.gle
  gse := h.gse
  gee := h.gee
  gde := h.gde
theorem DoSt.dead {gb m cb : Nat} (h : DoSt w0 w gl gs ge gd lv sv ev dv v1 (.slice (some ⟨gb, 0, none⟩) m cb) ss dd) (i : Int) (x : Bool) :
    DoSt w0 (w.setCell ⟨gb, i.toNat, none⟩ (.bool x)) gl gs ge gd lv sv ev dv v1 (.slice (some ⟨gb, 0, none⟩) m cb) ss (dd.set i.toNat x) := by
  obtain ⟨H2, hg⟩ := Kd.R_putg h.H2 i x
  exact {
  hl := blk_grown h.hl hg (Kd.R_ne h.H2 h.hl (by decide))
  hs := blk_grown h.hs hg (Kd.R_ne h.H2 h.hs (by decide))
  he := blk_grown h.he hg (Kd.R_ne h.H2 h.he (by decide))
  hd := blk_grown h.hd hg (Kd.R_ne h.H2 h.hd (by decide))
  H1 := R_on rfl h.H1 hg (by
    obtain ⟨inner, ho⟩ := Kd.R_own h.H2
    obtain ⟨cells, hc⟩ := own_typed ho gb rfl
    exact Kd.R_ne h.H1 hc (by decide))
  H2 := H2
  hB := pw_below_grown h.hB _ h.hB.size hg (fun k hk => by cases hk; exact own_ge h.H2)
  gle := h.gle
  gse := h.gse
  gee := h.gee
  gde := h.gde }
theorem DoSt.up (h : DoSt w0 w gl gs ge gd lv sv ev dv v1 v2 ss dd) (hb : Below w.heap.size w w') : DoSt w0 w' gl gs ge gd lv sv ev dv v1 v2 ss dd where
  hl := blk_below h.hl hb
  hs := blk_below h.hs hb
  he := blk_below h.he hb
  hd := blk_below h.hd hb
  H1 := R_up h.H1 hb
  H2 := R_up h.H2 hb
  hB := below_step h.hB hb
  gle := h.gle
  gse := h.gse
  gee := h.gee
  gde := h.gde
theorem DoSt.fill {x0 x1 x2 x3 y0 y1 y2 y3 : Value} (h : DoSt w0 w gl gs ge gd lv sv ev [x0, x1, x2, x3] v1 v2 ss dd) :
    DoSt w0 ((((w.setCell ⟨gd, 0, none⟩ y0).setCell ⟨gd, 1, none⟩ y1).setCell ⟨gd, 2, none⟩ y2).setCell ⟨gd, 3, none⟩ y3) gl gs ge gd lv sv ev [y0, y1, y2, y3] v1 v2 ss dd where
  hl := blk_far (blk_far (blk_far (blk_far h.hl (blk_ne h.hl h.hd (by decide)) _) (blk_ne h.hl h.hd (by decide)) _) (blk_ne h.hl h.hd (by decide)) _) (blk_ne h.hl h.hd (by decide)) _
  hs := blk_far (blk_far (blk_far (blk_far h.hs (blk_ne h.hs h.hd (by decide)) _) (blk_ne h.hs h.hd (by decide)) _) (blk_ne h.hs h.hd (by decide)) _) (blk_ne h.hs h.hd (by decide)) _
  he := blk_far (blk_far (blk_far (blk_far h.he (blk_ne h.he h.hd (by decide)) _) (blk_ne h.he h.hd (by decide)) _) (blk_ne h.he h.hd (by decide)) _) (blk_ne h.he h.hd (by decide)) _
  hd := blk_put (blk_put (blk_put (blk_put h.hd 0 y0 rfl) 1 y1 rfl) 2 y2 rfl) 3 y3 rfl
  H1 := R_off rfl (R_off rfl (R_off rfl (R_off rfl h.H1 (Kd.R_ne h.H1 h.hd (by decide)) _) (Kd.R_ne h.H1 h.hd (by decide)) _) (Kd.R_ne h.H1 h.hd (by decide)) _) (Kd.R_ne h.H1 h.hd (by decide)) _
  H2 := R_off rfl (R_off rfl (R_off rfl (R_off rfl h.H2 (Kd.R_ne h.H2 h.hd (by decide)) _) (Kd.R_ne h.H2 h.hd (by decide)) _) (Kd.R_ne h.H2 h.hd (by decide)) _) (Kd.R_ne h.H2 h.hd (by decide)) _
  hB := below_set (below_set (below_set (below_set h.hB h.gde) h.gde) h.gde) h.gde
  gle := h.gle
  gse := h.gse
  gee := h.gee
  gde := h.gde
end
theorem evOk_cases {n : Int} {l : List S88} {op of dir : Int} (h : eventOk n l op of dir = true) :
    ((op = 1 ∨ op = 2) ∧ 0 ≤ of ∧ of < (l.length : Int) ∧ (dir = 1 ∨ dir = -1)) ∨ ((op = 3 ∨ op = 4) ∧ 0 ≤ of ∧ of < (l.length : Int)) ∨ (op = 5 ∧ 0 ≤ of ∧ of < n) := by
  unfold eventOk at h
  split at h
  · split at h
    · rename_i h1
      simp at h
      exact .inl ⟨h1, h.1.1, h.1.2, h.2⟩
    · split at h
      · rename_i h1
        simp at h
        exact .inr (.inl ⟨h1, h.1.1, h.1.2⟩)
      · split at h
        · rename_i h1
          simp at h
          exact .inr (.inr ⟨h1, h.1.1, h.1.2⟩)
        · cases h
  · cases h
theorem told_of {n : Int} {A : Option Addr} {c : Nat} {l : List S88} {b : Bool} {A1 : Option Addr} {m1 c1 : Nat} {ss : List S50} {A2 : Option Addr} {m2 c2 : Nat} {dd : List Bool} {w : World} {b1 b2 : Nat} {o1 o2 : Nat → Prop} (i : Int) (hr : Kd.C k88 w A l.length l) (hc : l.length ≤ c) (H1 : Kd.R k50 50 w b1 o1 (.slice A1 m1 c1) ss) (H2 : Kd.R Kd.bool 4 w b2 o2 (.slice A2 m2 c2) dd) (e1 : m1 = ss.length) (e2 : m2 = dd.length)
    (hl : l.length ≤ 1048576) (hd : dd.length = l.length) (h0 : 0 ≤ i) (h1 : i < m1) :
    Calls Try.prog 97 #[.agg #[.int .i64 n, .slice A l.length c], .agg #[.bool b, .slice A1 m1 c1, .slice A2 m2 c2], .int .i64 i] w fun e w' => e = .returned (.int .i64 (toldC l dd i (rd_T50 ss i))) ∧ Below w.heap.size w w' := by
  subst e1 e2
  exact told_at i hr hc (Kd.R_reads' H1).2.2 (Kd.R_reads' H1).2.1 (Kd.R_reads' H2).2.2 (Kd.R_reads' H2).2.1 hl hd h0 h1
theorem retold_step (l : List S88) (dd : List Bool) (ss : List S50) (k : Nat) (hk : k < ss.length) :
    (retoldTo l dd ss k).set (k : Int).toNat ⟨toldC l dd (k : Int) (rd_T50 (retoldTo l dd ss k) (k : Int)), (rd_T50 (retoldTo l dd ss k) (k : Int)).f1, (rd_T50 (retoldTo l dd ss k) (k : Int)).f2, (rd_T50 (retoldTo l dd ss k) (k : Int)).f3, (rd_T50 (retoldTo l dd ss k) (k : Int)).f4⟩ = retoldTo l dd ss (k + 1) := by
  rw [Int.toNat_natCast, retoldTo_at l dd ss k hk]
  exact retoldTo_succ l dd ss k hk
set_option maxHeartbeats 4000000 in
set_option maxRecDepth 100000 in
theorem do_is (n : Int) (A : Option Addr) (c : Nat) (l : List S88) (b : Bool) (A1 : Option Addr) (c1 : Nat) (ss : List S50) (A2 : Option Addr) (c2 : Nat) (dd : List Bool) (op of dir : Int) (w : World)
    (hr : Kd.C k88 w A l.length l) (hc : l.length ≤ c) (hr1 : Kd.C k50 w A1 ss.length ss) (hc1 : ss.length ≤ c1) (hr2 : Kd.C Kd.bool w A2 dd.length dd) (hc2 : dd.length ≤ c2)
    (hl : layoutOk n l = 0) (hns : (ss.length : Int) = n) (hnd : dd.length = l.length) (hev : eventOk n l op of dir = true) :
    Calls Try.prog 96 #[.agg #[.int .i64 n, .slice A l.length c], .agg #[.bool b, .slice A1 ss.length c1, .slice A2 dd.length c2], .agg #[.int .i64 op, .int .i64 of, .int .i64 dir]] w fun e w' => ∃ v2_ v3_ : Value, e = .returned (.agg #[.int .i64 (doCode l ss dd op of), .bool true, v2_, v3_]) ∧ Kd.R k50 50 w' w.heap.size (fun _ => True) v2_ (doSecs l ss dd op of dir) ∧ Kd.R Kd.bool 4 w' w.heap.size (fun _ => True) v3_ (doDead l ss dd op of) ∧ Below w.heap.size w w' := by
  have hn := lay_n hl
  have hs : ss.length ≤ 1000000 := by omega
  have hd : dd.length ≤ 1000000 := by omega
  have hpos : 0 < ss.length := by omega
  have HN := Aside0.mk (And.intro hl (And.intro hns (And.intro hnd hev)))
  clear hn hl hns hnd hev
  have f1 : impl_Section.f ss = some ss := by unfold impl_Section.f; rw [if_pos hs]
  have f2 : slices_Clone_bool_bool.f dd = some dd := by unfold slices_Clone_bool_bool.f; rw [if_pos hd]
  have HR := Aside0.mk hr
  have HR1 := Aside0.mk hr1
  have HR2 := Aside0.mk hr2
  clear hr hr1 hr2
  go_enter Try.func96, Try.ntmps96
  go_upto_region 1 with (first | ((with_reducible refine gate_dst (N := 3) rfl ?_); refine box_event ?hg (N := 3) ?hd (cs := #[.int .i64 n, .slice A l.length c]) (t := 30) ?hr ?_; (case hd => rfl); (case hg => rfl); (case hr => first | (go_simp; done) | (go_simp; rfl)); intro gl el wl kl bl) | ((with_reducible refine gate_dst (N := 4) rfl ?_); refine box_event ?hg (N := 4) ?hd (cs := #[.bool b, .slice A1 ss.length c1, .slice A2 dd.length c2]) (t := 46) ?hr ?_; (case hd => rfl); (case hg => rfl); (case hr => first | (go_simp; done) | (go_simp; rfl)); intro gs es ws ks bs) | ((with_reducible refine gate_dst (N := 5) rfl ?_); refine box_event ?hg (N := 5) ?hd (cs := #[.int .i64 op, .int .i64 of, .int .i64 dir]) (t := 56) ?hr ?_; (case hd => rfl); (case hg => rfl); (case hr => first | (go_simp; done) | (go_simp; rfl)); intro ge ee we ke be) | ((with_reducible refine gate_dst (N := 6) rfl ?_); refine box_event ?hg (N := 6) ?hd (cs := #[.int .i64 0, .bool false, .slice none 0 0, .slice none 0 0]) (t := 48) ?hr ?_; (case hd => rfl); (case hg => rfl); (case hr => first | (go_simp; done) | (go_simp; rfl)); intro gd ed wd kd_ bd))
  have KL := Aside0.mk (blk_below (blk_below (blk_below kl bs) be) bd)
  have KS := Aside0.mk (blk_below (blk_below ks be) bd)
  have KE := Aside0.mk (blk_below ke bd)
  have KD := Aside0.mk kd_
  have BB := Aside0.mk (below_step (below_step (below_step bl bs) be) bd)
  have GL := Aside0.mk (show w.heap.size ≤ gl by rw [el]; exact Nat.le_refl _)
  have GS := Aside0.mk (show w.heap.size ≤ gs by rw [es]; exact bl.size)
  have GE := Aside0.mk (show w.heap.size ≤ ge by rw [ee]; exact (below_step bl bs).size)
  have GD := Aside0.mk (show w.heap.size ≤ gd by rw [ed]; exact (below_step (below_step bl bs) be).size)
  clear kl ks ke kd_ bl bs be bd el es ee ed
  simp only [Act.put, List.setIfInBounds_toArray, List.set_cons_zero, List.set_cons_succ]
  go_cut [] from 12 to 18 (fun wx => ∃ v1 v2 : Value, DoSt w wx gl gs ge gd [.int .i64 n, .slice A l.length c] [.bool true, v1, v2] [.int .i64 op, .int .i64 of, .int .i64 dir] [.int .i64 0, .bool false, .slice none 0 0, .slice none 0 0] v1 v2 ss dd)
  case first =>
    have e1 : wd.drew.cell? ⟨gs, 1, none⟩ = some (.slice A1 ss.length c1) := (blk_cell (blk_drew KS.out) 1).trans rfl
    have e2 : wd.drew.cell? ⟨gs, 2, none⟩ = some (.slice A2 dd.length c2) := (blk_cell (blk_drew KS.out) 2).trans rfl
    have kx := Aside0.mk (blk_drew KS.out)
    have bx := Aside0.mk (below_drew1 BB.out)
    have by_ := Aside0.mk (below_drew1 (Below.refl wd.heap.size wd))
    go_region_with (first | (go_at_call 94; refine (impl_Section.calls A1 c1 ss ss _ (Kd.C_below HR1.out bx.out) hc1 f1).mono ?_; rintro e w' ⟨v1, rfl, ho1, hb1⟩; obtain ⟨Aa, ca, rfl⟩ := Kd.R_slice ho1; have kx := Aside0.mk (blk_below kx.out hb1); have c0_ : w'.cell? ⟨gs, 0, none⟩ = some (.bool b) := (blk_cell kx.out 0).trans rfl; have c1_ : w'.cell? ⟨gs, 1, none⟩ = some (.slice A1 ss.length c1) := (blk_cell kx.out 1).trans rfl; have c2_ : w'.cell? ⟨gs, 2, none⟩ = some (.slice A2 dd.length c2) := (blk_cell kx.out 2).trans rfl; have z0_ := blk_frozen kx.out 0; have z1_ := blk_frozen kx.out 1; have z2_ := blk_frozen kx.out 2; have HO1 := Aside0.mk (Kd.R_lower ho1 bx.out.size); (try (have HO2 := Aside0.mk (R_up HO2.out hb1))); have bx := Aside0.mk (below_step bx.out hb1); have by_ := Aside0.mk (below_step by_.out hb1); clear hb1 ho1) | (go_at_call 95; refine (slices_Clone_bool_bool.calls A2 c2 dd dd _ (Kd.C_below HR2.out bx.out) hc2 f2).mono ?_; rintro e w' ⟨v2, rfl, ho2, hb2⟩; obtain ⟨Ab, cb, rfl⟩ := Kd.R_slice ho2; have kx := Aside0.mk (blk_below kx.out hb2); have c0_ : w'.cell? ⟨gs, 0, none⟩ = some (.bool b) := (blk_cell kx.out 0).trans rfl; have c1_ : w'.cell? ⟨gs, 1, none⟩ = some (.slice A1 ss.length c1) := (blk_cell kx.out 1).trans rfl; have c2_ : w'.cell? ⟨gs, 2, none⟩ = some (.slice A2 dd.length c2) := (blk_cell kx.out 2).trans rfl; have z0_ := blk_frozen kx.out 0; have z1_ := blk_frozen kx.out 1; have z2_ := blk_frozen kx.out 2; have HO2 := Aside0.mk (Kd.R_lower ho2 bx.out.size); (try (have HO1 := Aside0.mk (R_up HO1.out hb2))); have bx := Aside0.mk (below_step bx.out hb2); have by_ := Aside0.mk (below_step by_.out hb2); clear hb2 ho2))
    all_goals (go_wp2_with fail; go_meet)
    all_goals exact ⟨_, _, DoSt.begin (blk_below KL.out by_.out) kx.out (blk_below KE.out by_.out) (blk_below KD.out by_.out) HO1.out HO2.out bx.out GL.out GS.out GE.out GD.out (blk_ne KL.out KS.out (by decide)) (blk_ne KE.out KS.out (by decide)) (blk_ne KD.out KS.out (by decide))⟩
  case rest =>
    obtain ⟨v1, v2, ST⟩ := hcut
    obtain ⟨gr, cr, e1, _, _, _⟩ := Kd.R_form ST.H1 hpos
    obtain ⟨Ad, cd, e2⟩ := Kd.R_slice ST.H2
    subst e1 e2
    have SA := Aside0.mk (show DoSt w wc gl gs ge gd [.int .i64 n, .slice A l.length c] [.bool true, .slice (some ⟨gr, 0, none⟩) ss.length cr, .slice Ad dd.length cd] [.int .i64 op, .int .i64 of, .int .i64 dir] [.int .i64 0, .bool false, .slice none 0 0, .slice none 0 0] (.slice (some ⟨gr, 0, none⟩) ss.length cr) (.slice Ad dd.length cd) ss dd from ST)
    have ce0 : wc.cell? ⟨ge, 0, none⟩ = some (.int .i64 op) := (blk_cell ST.he 0).trans rfl
    have ce1 : wc.cell? ⟨ge, 1, none⟩ = some (.int .i64 of) := (blk_cell ST.he 1).trans rfl
    have ce2 : wc.cell? ⟨ge, 2, none⟩ = some (.int .i64 dir) := (blk_cell ST.he 2).trans rfl
    have cs1 : wc.cell? ⟨gs, 1, none⟩ = some (.slice (some ⟨gr, 0, none⟩) ss.length cr) := (blk_cell ST.hs 1).trans rfl
    have cs2 : wc.cell? ⟨gs, 2, none⟩ = some (.slice Ad dd.length cd) := (blk_cell ST.hs 2).trans rfl
    have cs0 : wc.cell? ⟨gs, 0, none⟩ = some (.bool true) := (blk_cell ST.hs 0).trans rfl
    have cl0 : wc.cell? ⟨gl, 0, none⟩ = some (.int .i64 n) := (blk_cell ST.hl 0).trans rfl
    have cl1 : wc.cell? ⟨gl, 1, none⟩ = some (.slice A l.length c) := (blk_cell ST.hl 1).trans rfl
    clear ST KL KS KE KD BB
    go_upto_block 0 with fail
    go_cut [] from 9 to 115 (fun wx => Aside0 (DoSt w wx gl gs ge gd [.int .i64 n, .slice A l.length c] [.bool true, .slice (some ⟨gr, 0, none⟩) ss.length cr, .slice Ad dd.length cd] [.int .i64 op, .int .i64 of, .int .i64 dir] [.int .i64 0, .bool false, .slice none 0 0, .slice none 0 0] (.slice (some ⟨gr, 0, none⟩) ss.length cr) (.slice Ad dd.length cd) (midSecs l ss op of dir) (midDead dd op of)) ∧ Aside0 (doCode l ss dd op of = 0))
    case first =>
      obtain ⟨hl, hns, hnd, hev⟩ := HN.out
      have hln := lay_n hl
      have HL2 := Aside0.mk hln
      rcases evOk_cases hev with ⟨hop, ho0, ho1, hdir⟩ | ⟨hop, ho0, ho1⟩ | ⟨rfl, ho0, ho1⟩
      · have lr := lay_rd hl of ho0 ho1
        have ho2 := ho1
        rw [← hnd] at ho1
        obtain ⟨gb, cb, e, _, _, _⟩ := Kd.R_form SA.out.H2 (show 0 < dd.length by omega)
        cases e
        obtain ⟨x0, xf⟩ := bool_at SA.out.H2 of ho0 ho1
        obtain ⟨ad, e, y0, y1⟩ := at_T88 HR.out of ho0 (by omega)
        subst e
        have lr0 : (rd_T88 l of).f0 < (ss.length : Int) := by omega
        have lr1 : (rd_T88 l of).f1 < (ss.length : Int) := by omega
        have LR0 := Aside0.mk lr0
        have LR1 := Aside0.mk lr1
        clear lr lr0 lr1 hl hns hnd hev hln
        have Y0 := Aside0.mk y0
        have Y1 := Aside0.mk y1
        clear y0 y1
        rcases Bool.eq_false_or_eq_true (rdOf false dd of) with hdo | hdo
        · rw [hdo] at x0
          have HDO := Aside0.mk hdo
          clear hdo
          have hc2 : doCode l ss dd op of = 2 := by unfold doCode; rw [if_pos hop, if_pos HDO.out]
          have HC2 := Aside0.mk hc2
          clear hc2
          have kd0 := (blk_cell SA.out.hd 0).trans (show _ = some (Value.int .i64 0) from rfl)
          have kd1 := (blk_cell SA.out.hd 1).trans (show _ = some (Value.bool false) from rfl)
          have kd2 := (blk_cell SA.out.hd 2).trans (show _ = some (Value.slice none 0 0) from rfl)
          have kd3 := (blk_cell SA.out.hd 3).trans (show _ = some (Value.slice none 0 0) from rfl)
          have kz0 := blk_frozen SA.out.hd 0
          have kz1 := blk_frozen SA.out.hd 1
          have kz2 := blk_frozen SA.out.hd 2
          have kz3 := blk_frozen SA.out.hd 3
          rcases hop with rfl | rfl
          all_goals
            go_wp2_with fail
            have SF := SA.out.fill (y0 := .int .i64 2) (y1 := .bool true) (y2 := (.slice (some ⟨gr, 0, none⟩) ss.length cr)) (y3 := (.slice (some ⟨gb, 0, none⟩) dd.length cd))
            refine bodyPost_ret (results_cell_row rfl _ _ gd 48 _ (0, 0) _ rfl SF.hd Try.underlying48 rfl (by kernel_rfl)) rfl ⟨_, _, by rw [HC2.out], ?_, ?_, SF.hB⟩
            · unfold doSecs; rw [HC2.out]; exact SF.H1
            · unfold doDead; rw [HC2.out]; exact SF.H2
        · rw [hdo] at x0
          have HDO := Aside0.mk hdo
          clear hdo
          have y0 := pw_cell_below SA.out.hB Y0.out
          have y1 := pw_cell_below SA.out.hB Y1.out
          rcases hdir with rfl | rfl
          · rcases hop with rfl | rfl
            · go_upto_region 12 with (first | ((with_reducible refine gate_dst (N := 9) rfl ?_); refine box_event ?hg (N := 9) ?hd (cs := #[.int .i64 0, .int .i64 0]) (t := 88) ?hr ?_; (case hd => rfl); (case hg => rfl); (case hr => first | (go_simp; done) | (go_simp; rfl)); intro gc ec wb kc bc; have KC := Aside0.mk kc; have EC := Aside0.mk ec; have BC := Aside0.mk bc; have zc0 := blk_frozen kc 0; have zc1 := blk_frozen kc 1; have kc0 := (blk_cell kc 0).trans (show _ = some (Value.int .i64 0) from rfl); have kc1 := (blk_cell kc 1).trans (show _ = some (Value.int .i64 0) from rfl); have e0 := pw_cell_below bc ce0; have e1 := pw_cell_below bc ce1; have e2 := pw_cell_below bc ce2; have ss1 := pw_cell_below bc cs1; have ss2 := pw_cell_below bc cs2; clear kc ec bc))
              have KX := Aside0.mk (blk_put (blk_put KC.out 0 (.int .i64 (rd_T88 l of).f0) rfl) 1 (.int .i64 (rd_T88 l of).f1) rfl)
              have BX := Aside0.mk (below_set (j := 1) (v := (.int .i64 (rd_T88 l of).f1)) (below_set (j := 0) (v := (.int .i64 (rd_T88 l of).f0)) BC.out (Nat.le_of_eq EC.out.symm)) (Nat.le_of_eq EC.out.symm))
              have S1 := Aside0.mk (SA.out.up BX.out)
              clear SA ce0 ce1 ce2 cs0 cs1 cs2 cl0 cl1 x0 xf KC BC BX zc0 zc1 kc0 kc1 e0 e1 e2 ss1 ss2 y0 y1 EC
              generalize ((wb.setCell ⟨gc, 0, none⟩ (.int .i64 (rd_T88 l of).f0)).setCell ⟨gc, 1, none⟩ (.int .i64 (rd_T88 l of).f1)) = w1 at S1 KX ⊢
              have kge0 : w1.cell? ⟨ge, 0, none⟩ = some (.int .i64 1) := (blk_cell S1.out.he 0).trans rfl
              have kge1 : w1.cell? ⟨ge, 1, none⟩ = some (.int .i64 of) := (blk_cell S1.out.he 1).trans rfl
              have kge2 : w1.cell? ⟨ge, 2, none⟩ = some (.int .i64 1) := (blk_cell S1.out.he 2).trans rfl
              have kgs0 : w1.cell? ⟨gs, 0, none⟩ = some (.bool true) := (blk_cell S1.out.hs 0).trans rfl
              have kgs1 : w1.cell? ⟨gs, 1, none⟩ = some (.slice (some ⟨gr, 0, none⟩) ss.length cr) := (blk_cell S1.out.hs 1).trans rfl
              have kgs2 : w1.cell? ⟨gs, 2, none⟩ = some (.slice (some ⟨gb, 0, none⟩) dd.length cd) := (blk_cell S1.out.hs 2).trans rfl
              have kgl0 : w1.cell? ⟨gl, 0, none⟩ = some (.int .i64 n) := (blk_cell S1.out.hl 0).trans rfl
              have kgl1 : w1.cell? ⟨gl, 1, none⟩ = some (.slice (some ad) l.length c) := (blk_cell S1.out.hl 1).trans rfl
              have kc0 : w1.cell? ⟨gc, 0, none⟩ = some (.int .i64 (rd_T88 l of).f0) := (blk_cell KX.out 0).trans rfl
              have kc1 : w1.cell? ⟨gc, 1, none⟩ = some (.int .i64 (rd_T88 l of).f1) := (blk_cell KX.out 1).trans rfl
              go_upto_region 14 with (go_at_call 130; refine (cnt_any _ _ true gs gr ss.length cr _ _ _ _ _ LR0.out S1.out.hs S1.out.H1).mono ?_; rintro e w2 ⟨rfl, hR, hg⟩; have S2 := Aside0.mk (S1.out.sec hR hg); have KY := Aside0.mk (blk_grown KX.out hg (Kd.R_ne S1.out.H1 KX.out (by decide))); clear hR hg)
              clear kge0 kge1 kge2 kgs0 kgs1 kgs2 kgl0 kgl1
              clear kc0 kc1 S1 KX
              have kge0 : w2.cell? ⟨ge, 0, none⟩ = some (.int .i64 1) := (blk_cell S2.out.he 0).trans rfl
              have kge1 : w2.cell? ⟨ge, 1, none⟩ = some (.int .i64 of) := (blk_cell S2.out.he 1).trans rfl
              have kge2 : w2.cell? ⟨ge, 2, none⟩ = some (.int .i64 1) := (blk_cell S2.out.he 2).trans rfl
              have kgs0 : w2.cell? ⟨gs, 0, none⟩ = some (.bool true) := (blk_cell S2.out.hs 0).trans rfl
              have kgs1 : w2.cell? ⟨gs, 1, none⟩ = some (.slice (some ⟨gr, 0, none⟩) ss.length cr) := (blk_cell S2.out.hs 1).trans rfl
              have kgs2 : w2.cell? ⟨gs, 2, none⟩ = some (.slice (some ⟨gb, 0, none⟩) dd.length cd) := (blk_cell S2.out.hs 2).trans rfl
              have kgl0 : w2.cell? ⟨gl, 0, none⟩ = some (.int .i64 n) := (blk_cell S2.out.hl 0).trans rfl
              have kgl1 : w2.cell? ⟨gl, 1, none⟩ = some (.slice (some ad) l.length c) := (blk_cell S2.out.hl 1).trans rfl
              have kc1 : w2.cell? ⟨gc, 1, none⟩ = some (.int .i64 (rd_T88 l of).f1) := (blk_cell KY.out 1).trans rfl
              go_wp2_with (go_at_call 130; refine (cnt_any _ _ true gs gr ss.length cr _ _ _ _ _ LR1.out S2.out.hs S2.out.H1).mono ?_; rintro e w3 ⟨rfl, hR, hg⟩; have S3 := Aside0.mk (S2.out.sec hR hg); clear hR hg)
              go_meet
              case rel => exact ⟨⟨S3.out⟩, ⟨by unfold doCode; rw [if_pos (by decide), HDO.out]; rfl⟩⟩
            · go_upto_region 12 with (first | ((with_reducible refine gate_dst (N := 9) rfl ?_); refine box_event ?hg (N := 9) ?hd (cs := #[.int .i64 0, .int .i64 0]) (t := 88) ?hr ?_; (case hd => rfl); (case hg => rfl); (case hr => first | (go_simp; done) | (go_simp; rfl)); intro gc ec wb kc bc; have KC := Aside0.mk kc; have EC := Aside0.mk ec; have BC := Aside0.mk bc; have zc0 := blk_frozen kc 0; have zc1 := blk_frozen kc 1; have kc0 := (blk_cell kc 0).trans (show _ = some (Value.int .i64 0) from rfl); have kc1 := (blk_cell kc 1).trans (show _ = some (Value.int .i64 0) from rfl); have e0 := pw_cell_below bc ce0; have e1 := pw_cell_below bc ce1; have e2 := pw_cell_below bc ce2; have ss1 := pw_cell_below bc cs1; have ss2 := pw_cell_below bc cs2; clear kc ec bc))
              have KX := Aside0.mk (blk_put (blk_put KC.out 0 (.int .i64 (rd_T88 l of).f0) rfl) 1 (.int .i64 (rd_T88 l of).f1) rfl)
              have BX := Aside0.mk (below_set (j := 1) (v := (.int .i64 (rd_T88 l of).f1)) (below_set (j := 0) (v := (.int .i64 (rd_T88 l of).f0)) BC.out (Nat.le_of_eq EC.out.symm)) (Nat.le_of_eq EC.out.symm))
              have S1 := Aside0.mk (SA.out.up BX.out)
              clear SA ce0 ce1 ce2 cs0 cs1 cs2 cl0 cl1 x0 xf KC BC BX zc0 zc1 kc0 kc1 e0 e1 e2 ss1 ss2 y0 y1 EC
              generalize ((wb.setCell ⟨gc, 0, none⟩ (.int .i64 (rd_T88 l of).f0)).setCell ⟨gc, 1, none⟩ (.int .i64 (rd_T88 l of).f1)) = w1 at S1 KX ⊢
              have kge0 : w1.cell? ⟨ge, 0, none⟩ = some (.int .i64 2) := (blk_cell S1.out.he 0).trans rfl
              have kge1 : w1.cell? ⟨ge, 1, none⟩ = some (.int .i64 of) := (blk_cell S1.out.he 1).trans rfl
              have kge2 : w1.cell? ⟨ge, 2, none⟩ = some (.int .i64 1) := (blk_cell S1.out.he 2).trans rfl
              have kgs0 : w1.cell? ⟨gs, 0, none⟩ = some (.bool true) := (blk_cell S1.out.hs 0).trans rfl
              have kgs1 : w1.cell? ⟨gs, 1, none⟩ = some (.slice (some ⟨gr, 0, none⟩) ss.length cr) := (blk_cell S1.out.hs 1).trans rfl
              have kgs2 : w1.cell? ⟨gs, 2, none⟩ = some (.slice (some ⟨gb, 0, none⟩) dd.length cd) := (blk_cell S1.out.hs 2).trans rfl
              have kgl0 : w1.cell? ⟨gl, 0, none⟩ = some (.int .i64 n) := (blk_cell S1.out.hl 0).trans rfl
              have kgl1 : w1.cell? ⟨gl, 1, none⟩ = some (.slice (some ad) l.length c) := (blk_cell S1.out.hl 1).trans rfl
              have kc0 : w1.cell? ⟨gc, 0, none⟩ = some (.int .i64 (rd_T88 l of).f0) := (blk_cell KX.out 0).trans rfl
              have kc1 : w1.cell? ⟨gc, 1, none⟩ = some (.int .i64 (rd_T88 l of).f1) := (blk_cell KX.out 1).trans rfl
              go_wp2_with (go_at_call 130; refine (cnt_any _ _ true gs gr ss.length cr _ _ _ _ _ LR1.out S1.out.hs S1.out.H1).mono ?_; rintro e w3 ⟨rfl, hR, hg⟩; have S3 := Aside0.mk (S1.out.sec hR hg); clear hR hg)
              go_meet
              case rel => exact ⟨⟨S3.out⟩, ⟨by unfold doCode; rw [if_pos (by decide), HDO.out]; rfl⟩⟩
          · rcases hop with rfl | rfl
            · go_upto_region 12 with (first | ((with_reducible refine gate_dst (N := 9) rfl ?_); refine box_event ?hg (N := 9) ?hd (cs := #[.int .i64 0, .int .i64 0]) (t := 88) ?hr ?_; (case hd => rfl); (case hg => rfl); (case hr => first | (go_simp; done) | (go_simp; rfl)); intro gc ec wb kc bc; have KC := Aside0.mk kc; have EC := Aside0.mk ec; have BC := Aside0.mk bc; have zc0 := blk_frozen kc 0; have zc1 := blk_frozen kc 1; have kc0 := (blk_cell kc 0).trans (show _ = some (Value.int .i64 0) from rfl); have kc1 := (blk_cell kc 1).trans (show _ = some (Value.int .i64 0) from rfl); have e0 := pw_cell_below bc ce0; have e1 := pw_cell_below bc ce1; have e2 := pw_cell_below bc ce2; have ss1 := pw_cell_below bc cs1; have ss2 := pw_cell_below bc cs2; clear kc ec bc))
              have KX := Aside0.mk (blk_put (blk_put (blk_put (blk_put KC.out 0 (.int .i64 (rd_T88 l of).f0) rfl) 1 (.int .i64 (rd_T88 l of).f1) rfl) 0 (.int .i64 (rd_T88 l of).f1) rfl) 1 (.int .i64 (rd_T88 l of).f0) rfl)
              have BX := Aside0.mk (below_set (j := 1) (v := (.int .i64 (rd_T88 l of).f0)) (below_set (j := 0) (v := (.int .i64 (rd_T88 l of).f1)) (below_set (j := 1) (v := (.int .i64 (rd_T88 l of).f1)) (below_set (j := 0) (v := (.int .i64 (rd_T88 l of).f0)) BC.out (Nat.le_of_eq EC.out.symm)) (Nat.le_of_eq EC.out.symm)) (Nat.le_of_eq EC.out.symm)) (Nat.le_of_eq EC.out.symm))
              have S1 := Aside0.mk (SA.out.up BX.out)
              clear SA ce0 ce1 ce2 cs0 cs1 cs2 cl0 cl1 x0 xf KC BC BX zc0 zc1 kc0 kc1 e0 e1 e2 ss1 ss2 y0 y1 EC
              generalize ((((wb.setCell ⟨gc, 0, none⟩ (.int .i64 (rd_T88 l of).f0)).setCell ⟨gc, 1, none⟩ (.int .i64 (rd_T88 l of).f1)).setCell ⟨gc, 0, none⟩ (.int .i64 (rd_T88 l of).f1)).setCell ⟨gc, 1, none⟩ (.int .i64 (rd_T88 l of).f0)) = w1 at S1 KX ⊢
              have kge0 : w1.cell? ⟨ge, 0, none⟩ = some (.int .i64 1) := (blk_cell S1.out.he 0).trans rfl
              have kge1 : w1.cell? ⟨ge, 1, none⟩ = some (.int .i64 of) := (blk_cell S1.out.he 1).trans rfl
              have kge2 : w1.cell? ⟨ge, 2, none⟩ = some (.int .i64 (-1)) := (blk_cell S1.out.he 2).trans rfl
              have kgs0 : w1.cell? ⟨gs, 0, none⟩ = some (.bool true) := (blk_cell S1.out.hs 0).trans rfl
              have kgs1 : w1.cell? ⟨gs, 1, none⟩ = some (.slice (some ⟨gr, 0, none⟩) ss.length cr) := (blk_cell S1.out.hs 1).trans rfl
              have kgs2 : w1.cell? ⟨gs, 2, none⟩ = some (.slice (some ⟨gb, 0, none⟩) dd.length cd) := (blk_cell S1.out.hs 2).trans rfl
              have kgl0 : w1.cell? ⟨gl, 0, none⟩ = some (.int .i64 n) := (blk_cell S1.out.hl 0).trans rfl
              have kgl1 : w1.cell? ⟨gl, 1, none⟩ = some (.slice (some ad) l.length c) := (blk_cell S1.out.hl 1).trans rfl
              have kc0 : w1.cell? ⟨gc, 0, none⟩ = some (.int .i64 (rd_T88 l of).f1) := (blk_cell KX.out 0).trans rfl
              have kc1 : w1.cell? ⟨gc, 1, none⟩ = some (.int .i64 (rd_T88 l of).f0) := (blk_cell KX.out 1).trans rfl
              go_upto_region 14 with (go_at_call 130; refine (cnt_any _ _ true gs gr ss.length cr _ _ _ _ _ LR1.out S1.out.hs S1.out.H1).mono ?_; rintro e w2 ⟨rfl, hR, hg⟩; have S2 := Aside0.mk (S1.out.sec hR hg); have KY := Aside0.mk (blk_grown KX.out hg (Kd.R_ne S1.out.H1 KX.out (by decide))); clear hR hg)
              clear kge0 kge1 kge2 kgs0 kgs1 kgs2 kgl0 kgl1
              clear kc0 kc1 S1 KX
              have kge0 : w2.cell? ⟨ge, 0, none⟩ = some (.int .i64 1) := (blk_cell S2.out.he 0).trans rfl
              have kge1 : w2.cell? ⟨ge, 1, none⟩ = some (.int .i64 of) := (blk_cell S2.out.he 1).trans rfl
              have kge2 : w2.cell? ⟨ge, 2, none⟩ = some (.int .i64 (-1)) := (blk_cell S2.out.he 2).trans rfl
              have kgs0 : w2.cell? ⟨gs, 0, none⟩ = some (.bool true) := (blk_cell S2.out.hs 0).trans rfl
              have kgs1 : w2.cell? ⟨gs, 1, none⟩ = some (.slice (some ⟨gr, 0, none⟩) ss.length cr) := (blk_cell S2.out.hs 1).trans rfl
              have kgs2 : w2.cell? ⟨gs, 2, none⟩ = some (.slice (some ⟨gb, 0, none⟩) dd.length cd) := (blk_cell S2.out.hs 2).trans rfl
              have kgl0 : w2.cell? ⟨gl, 0, none⟩ = some (.int .i64 n) := (blk_cell S2.out.hl 0).trans rfl
              have kgl1 : w2.cell? ⟨gl, 1, none⟩ = some (.slice (some ad) l.length c) := (blk_cell S2.out.hl 1).trans rfl
              have kc1 : w2.cell? ⟨gc, 1, none⟩ = some (.int .i64 (rd_T88 l of).f0) := (blk_cell KY.out 1).trans rfl
              go_wp2_with (go_at_call 130; refine (cnt_any _ _ true gs gr ss.length cr _ _ _ _ _ LR0.out S2.out.hs S2.out.H1).mono ?_; rintro e w3 ⟨rfl, hR, hg⟩; have S3 := Aside0.mk (S2.out.sec hR hg); clear hR hg)
              go_meet
              case rel => exact ⟨⟨S3.out⟩, ⟨by unfold doCode; rw [if_pos (by decide), HDO.out]; rfl⟩⟩
            · go_upto_region 12 with (first | ((with_reducible refine gate_dst (N := 9) rfl ?_); refine box_event ?hg (N := 9) ?hd (cs := #[.int .i64 0, .int .i64 0]) (t := 88) ?hr ?_; (case hd => rfl); (case hg => rfl); (case hr => first | (go_simp; done) | (go_simp; rfl)); intro gc ec wb kc bc; have KC := Aside0.mk kc; have EC := Aside0.mk ec; have BC := Aside0.mk bc; have zc0 := blk_frozen kc 0; have zc1 := blk_frozen kc 1; have kc0 := (blk_cell kc 0).trans (show _ = some (Value.int .i64 0) from rfl); have kc1 := (blk_cell kc 1).trans (show _ = some (Value.int .i64 0) from rfl); have e0 := pw_cell_below bc ce0; have e1 := pw_cell_below bc ce1; have e2 := pw_cell_below bc ce2; have ss1 := pw_cell_below bc cs1; have ss2 := pw_cell_below bc cs2; clear kc ec bc))
              have KX := Aside0.mk (blk_put (blk_put (blk_put (blk_put KC.out 0 (.int .i64 (rd_T88 l of).f0) rfl) 1 (.int .i64 (rd_T88 l of).f1) rfl) 0 (.int .i64 (rd_T88 l of).f1) rfl) 1 (.int .i64 (rd_T88 l of).f0) rfl)
              have BX := Aside0.mk (below_set (j := 1) (v := (.int .i64 (rd_T88 l of).f0)) (below_set (j := 0) (v := (.int .i64 (rd_T88 l of).f1)) (below_set (j := 1) (v := (.int .i64 (rd_T88 l of).f1)) (below_set (j := 0) (v := (.int .i64 (rd_T88 l of).f0)) BC.out (Nat.le_of_eq EC.out.symm)) (Nat.le_of_eq EC.out.symm)) (Nat.le_of_eq EC.out.symm)) (Nat.le_of_eq EC.out.symm))
              have S1 := Aside0.mk (SA.out.up BX.out)
              clear SA ce0 ce1 ce2 cs0 cs1 cs2 cl0 cl1 x0 xf KC BC BX zc0 zc1 kc0 kc1 e0 e1 e2 ss1 ss2 y0 y1 EC
              generalize ((((wb.setCell ⟨gc, 0, none⟩ (.int .i64 (rd_T88 l of).f0)).setCell ⟨gc, 1, none⟩ (.int .i64 (rd_T88 l of).f1)).setCell ⟨gc, 0, none⟩ (.int .i64 (rd_T88 l of).f1)).setCell ⟨gc, 1, none⟩ (.int .i64 (rd_T88 l of).f0)) = w1 at S1 KX ⊢
              have kge0 : w1.cell? ⟨ge, 0, none⟩ = some (.int .i64 2) := (blk_cell S1.out.he 0).trans rfl
              have kge1 : w1.cell? ⟨ge, 1, none⟩ = some (.int .i64 of) := (blk_cell S1.out.he 1).trans rfl
              have kge2 : w1.cell? ⟨ge, 2, none⟩ = some (.int .i64 (-1)) := (blk_cell S1.out.he 2).trans rfl
              have kgs0 : w1.cell? ⟨gs, 0, none⟩ = some (.bool true) := (blk_cell S1.out.hs 0).trans rfl
              have kgs1 : w1.cell? ⟨gs, 1, none⟩ = some (.slice (some ⟨gr, 0, none⟩) ss.length cr) := (blk_cell S1.out.hs 1).trans rfl
              have kgs2 : w1.cell? ⟨gs, 2, none⟩ = some (.slice (some ⟨gb, 0, none⟩) dd.length cd) := (blk_cell S1.out.hs 2).trans rfl
              have kgl0 : w1.cell? ⟨gl, 0, none⟩ = some (.int .i64 n) := (blk_cell S1.out.hl 0).trans rfl
              have kgl1 : w1.cell? ⟨gl, 1, none⟩ = some (.slice (some ad) l.length c) := (blk_cell S1.out.hl 1).trans rfl
              have kc0 : w1.cell? ⟨gc, 0, none⟩ = some (.int .i64 (rd_T88 l of).f1) := (blk_cell KX.out 0).trans rfl
              have kc1 : w1.cell? ⟨gc, 1, none⟩ = some (.int .i64 (rd_T88 l of).f0) := (blk_cell KX.out 1).trans rfl
              go_wp2_with (go_at_call 130; refine (cnt_any _ _ true gs gr ss.length cr _ _ _ _ _ LR0.out S1.out.hs S1.out.H1).mono ?_; rintro e w3 ⟨rfl, hR, hg⟩; have S3 := Aside0.mk (S1.out.sec hR hg); clear hR hg)
              go_meet
              case rel => exact ⟨⟨S3.out⟩, ⟨by unfold doCode; rw [if_pos (by decide), HDO.out]; rfl⟩⟩
      · have lr := lay_rd hl of ho0 ho1
        have ho2 := ho1
        rw [← hnd] at ho1
        obtain ⟨gb, cb, e, _, _, _⟩ := Kd.R_form SA.out.H2 (show 0 < dd.length by omega)
        cases e
        obtain ⟨x0, xf⟩ := bool_at SA.out.H2 of ho0 ho1
        obtain ⟨ad, e, y0, y1⟩ := at_T88 HR.out of ho0 (by omega)
        subst e
        have lr0 : (rd_T88 l of).f0 < (ss.length : Int) := by omega
        have lr1 : (rd_T88 l of).f1 < (ss.length : Int) := by omega
        have LR0 := Aside0.mk lr0
        have LR1 := Aside0.mk lr1
        clear lr lr0 lr1 hl hns hnd hev hln
        have Y0 := Aside0.mk y0
        have Y1 := Aside0.mk y1
        clear y0 y1
        rcases hop with rfl | rfl
        · go_upto_region 17 with fail
          have S1 := Aside0.mk (SA.out.dead of true)
          clear SA ce0 ce1 ce2 cs0 cs1 cs2 cl0 cl1 x0 xf
          generalize wc.setCell ⟨gb, of.toNat, none⟩ (.bool true) = w1 at S1 ⊢
          have kge0 : w1.cell? ⟨ge, 0, none⟩ = some (.int .i64 3) := (blk_cell S1.out.he 0).trans rfl
          have kge1 : w1.cell? ⟨ge, 1, none⟩ = some (.int .i64 of) := (blk_cell S1.out.he 1).trans rfl
          have kge2 : w1.cell? ⟨ge, 2, none⟩ = some (.int .i64 dir) := (blk_cell S1.out.he 2).trans rfl
          have kgs0 : w1.cell? ⟨gs, 0, none⟩ = some (.bool true) := (blk_cell S1.out.hs 0).trans rfl
          have kgs1 : w1.cell? ⟨gs, 1, none⟩ = some (.slice (some ⟨gr, 0, none⟩) ss.length cr) := (blk_cell S1.out.hs 1).trans rfl
          have kgs2 : w1.cell? ⟨gs, 2, none⟩ = some (.slice (some ⟨gb, 0, none⟩) dd.length cd) := (blk_cell S1.out.hs 2).trans rfl
          have kgl0 : w1.cell? ⟨gl, 0, none⟩ = some (.int .i64 n) := (blk_cell S1.out.hl 0).trans rfl
          have kgl1 : w1.cell? ⟨gl, 1, none⟩ = some (.slice (some ad) l.length c) := (blk_cell S1.out.hl 1).trans rfl
          have y0 := pw_cell_below S1.out.hB Y0.out
          have y1 := pw_cell_below S1.out.hB Y1.out
          go_upto_region 18 with (go_at_call 131; refine (lose_any _ true gs gr ss.length cr _ _ _ _ _ LR0.out S1.out.hs S1.out.H1).mono ?_; rintro e w2 ⟨rfl, hR, hg⟩; have S2 := Aside0.mk (S1.out.sec hR hg); clear hR hg)
          clear kge0 kge1 kge2 kgs0 kgs1 kgs2 kgl0 kgl1
          clear y0 y1 S1
          have kge0 : w2.cell? ⟨ge, 0, none⟩ = some (.int .i64 3) := (blk_cell S2.out.he 0).trans rfl
          have kge1 : w2.cell? ⟨ge, 1, none⟩ = some (.int .i64 of) := (blk_cell S2.out.he 1).trans rfl
          have kge2 : w2.cell? ⟨ge, 2, none⟩ = some (.int .i64 dir) := (blk_cell S2.out.he 2).trans rfl
          have kgs0 : w2.cell? ⟨gs, 0, none⟩ = some (.bool true) := (blk_cell S2.out.hs 0).trans rfl
          have kgs1 : w2.cell? ⟨gs, 1, none⟩ = some (.slice (some ⟨gr, 0, none⟩) ss.length cr) := (blk_cell S2.out.hs 1).trans rfl
          have kgs2 : w2.cell? ⟨gs, 2, none⟩ = some (.slice (some ⟨gb, 0, none⟩) dd.length cd) := (blk_cell S2.out.hs 2).trans rfl
          have kgl0 : w2.cell? ⟨gl, 0, none⟩ = some (.int .i64 n) := (blk_cell S2.out.hl 0).trans rfl
          have kgl1 : w2.cell? ⟨gl, 1, none⟩ = some (.slice (some ad) l.length c) := (blk_cell S2.out.hl 1).trans rfl
          have y0 := pw_cell_below S2.out.hB Y0.out
          have y1 := pw_cell_below S2.out.hB Y1.out
          go_wp2_with (go_at_call 131; refine (lose_any _ true gs gr ss.length cr _ _ _ _ _ LR1.out S2.out.hs S2.out.H1).mono ?_; rintro e w3 ⟨rfl, hR, hg⟩; have S3 := Aside0.mk (S2.out.sec hR hg); clear hR hg)
          go_meet
          case rel => exact ⟨⟨S3.out⟩, ⟨rfl⟩⟩
        · go_wp2_with fail
          go_meet
          case rel => exact ⟨⟨SA.out.dead of false⟩, ⟨rfl⟩⟩
      · rw [← hns] at ho1
        obtain ⟨z0, z1, z2, z3, z4, zf0, zf1, zf2, zf3, zf4⟩ := sec_at SA.out.H1 of ho0 ho1
        have hll : l.length ≤ 1048576 := by omega
        have HLL := Aside0.mk hll
        have HND := Aside0.mk hnd
        have HO0 := Aside0.mk ho0
        have HO1 := Aside0.mk ho1
        clear hl hns hnd hev hln hll z0 z1 z2 z3 z4 zf0 zf1 zf2 zf3 zf4
        rcases Bool.eq_false_or_eq_true (deadAt l dd of) with hdo | hdo
        · have HDO := Aside0.mk hdo
          clear hdo
          have HC2 := Aside0.mk (show doCode l ss dd 5 of = 3 by unfold doCode; rw [if_neg (by decide), if_pos rfl, if_pos HDO.out])
          go_upto_region 23 with (go_at_call 98; refine (dead_at of HDO.out (Kd.C_below HR.out SA.out.hB) hc (Kd.R_reads' SA.out.H1).2.2 (Kd.R_reads' SA.out.H1).2.1 (Kd.R_reads' SA.out.H2).2.2 (Kd.R_reads' SA.out.H2).2.1 HLL.out HND.out).mono ?_; rintro e w1 ⟨rfl, hb⟩; have S1 := Aside0.mk (SA.out.up hb); clear hb)
          clear ce0 ce1 ce2 cs0 cs1 cs2 cl0 cl1 SA
          have kge0 : w1.cell? ⟨ge, 0, none⟩ = some (.int .i64 5) := (blk_cell S1.out.he 0).trans rfl
          have kge1 : w1.cell? ⟨ge, 1, none⟩ = some (.int .i64 of) := (blk_cell S1.out.he 1).trans rfl
          have kge2 : w1.cell? ⟨ge, 2, none⟩ = some (.int .i64 dir) := (blk_cell S1.out.he 2).trans rfl
          have kgs0 : w1.cell? ⟨gs, 0, none⟩ = some (.bool true) := (blk_cell S1.out.hs 0).trans rfl
          have kgs1 : w1.cell? ⟨gs, 1, none⟩ = some (.slice (some ⟨gr, 0, none⟩) ss.length cr) := (blk_cell S1.out.hs 1).trans rfl
          have kgs2 : w1.cell? ⟨gs, 2, none⟩ = some (.slice Ad dd.length cd) := (blk_cell S1.out.hs 2).trans rfl
          have kgl0 : w1.cell? ⟨gl, 0, none⟩ = some (.int .i64 n) := (blk_cell S1.out.hl 0).trans rfl
          have kgl1 : w1.cell? ⟨gl, 1, none⟩ = some (.slice A l.length c) := (blk_cell S1.out.hl 1).trans rfl
          have kd0 : w1.cell? ⟨gd, 0, none⟩ = some (.int .i64 0) := (blk_cell S1.out.hd 0).trans rfl
          have kz0 := blk_frozen S1.out.hd 0
          have kd1 : w1.cell? ⟨gd, 1, none⟩ = some (.bool false) := (blk_cell S1.out.hd 1).trans rfl
          have kz1 := blk_frozen S1.out.hd 1
          have kd2 : w1.cell? ⟨gd, 2, none⟩ = some (.slice none 0 0) := (blk_cell S1.out.hd 2).trans rfl
          have kz2 := blk_frozen S1.out.hd 2
          have kd3 : w1.cell? ⟨gd, 3, none⟩ = some (.slice none 0 0) := (blk_cell S1.out.hd 3).trans rfl
          have kz3 := blk_frozen S1.out.hd 3
          go_wp2_with fail
          have SF := S1.out.fill (y0 := .int .i64 3) (y1 := .bool true) (y2 := (.slice (some ⟨gr, 0, none⟩) ss.length cr)) (y3 := (.slice Ad dd.length cd))
          refine bodyPost_ret (results_cell_row rfl _ _ gd 48 _ (0, 0) _ rfl SF.hd Try.underlying48 rfl (by kernel_rfl)) rfl ⟨_, _, by rw [HC2.out], ?_, ?_, SF.hB⟩
          · unfold doSecs; rw [HC2.out]; exact SF.H1
          · unfold doDead; rw [HC2.out]; exact SF.H2
        · have HDO := Aside0.mk hdo
          clear hdo
          go_upto_region 24 with (go_at_call 98; refine (dead_at of HDO.out (Kd.C_below HR.out SA.out.hB) hc (Kd.R_reads' SA.out.H1).2.2 (Kd.R_reads' SA.out.H1).2.1 (Kd.R_reads' SA.out.H2).2.2 (Kd.R_reads' SA.out.H2).2.1 HLL.out HND.out).mono ?_; rintro e w1 ⟨rfl, hb⟩; have S1 := Aside0.mk (SA.out.up hb); clear hb)
          clear ce0 ce1 ce2 cs0 cs1 cs2 cl0 cl1 SA
          have kge0 : w1.cell? ⟨ge, 0, none⟩ = some (.int .i64 5) := (blk_cell S1.out.he 0).trans rfl
          have kge1 : w1.cell? ⟨ge, 1, none⟩ = some (.int .i64 of) := (blk_cell S1.out.he 1).trans rfl
          have kge2 : w1.cell? ⟨ge, 2, none⟩ = some (.int .i64 dir) := (blk_cell S1.out.he 2).trans rfl
          have kgs0 : w1.cell? ⟨gs, 0, none⟩ = some (.bool true) := (blk_cell S1.out.hs 0).trans rfl
          have kgs1 : w1.cell? ⟨gs, 1, none⟩ = some (.slice (some ⟨gr, 0, none⟩) ss.length cr) := (blk_cell S1.out.hs 1).trans rfl
          have kgs2 : w1.cell? ⟨gs, 2, none⟩ = some (.slice Ad dd.length cd) := (blk_cell S1.out.hs 2).trans rfl
          have kgl0 : w1.cell? ⟨gl, 0, none⟩ = some (.int .i64 n) := (blk_cell S1.out.hl 0).trans rfl
          have kgl1 : w1.cell? ⟨gl, 1, none⟩ = some (.slice A l.length c) := (blk_cell S1.out.hl 1).trans rfl
          have ho0 := HO0.out
          have ho1 := HO1.out
          obtain ⟨z0, z1, z2, z3, z4, zf0, zf1, zf2, zf3, zf4⟩ := sec_at S1.out.H1 of ho0 ho1
          by_cases hla : (rd_T50 ss of).f4 = 1
          · have hla1 : ((rd_T50 ss of).f4 == 1) = true := beq_iff_eq.mpr hla
            have HC2 := Aside0.mk (show doCode l ss dd 5 of = 4 by unfold doCode; rw [if_neg (by decide), if_pos rfl, HDO.out, if_neg (by decide), if_pos hla])
            clear hla
            have kd0 : w1.cell? ⟨gd, 0, none⟩ = some (.int .i64 0) := (blk_cell S1.out.hd 0).trans rfl
            have kz0 := blk_frozen S1.out.hd 0
            have kd1 : w1.cell? ⟨gd, 1, none⟩ = some (.bool false) := (blk_cell S1.out.hd 1).trans rfl
            have kz1 := blk_frozen S1.out.hd 1
            have kd2 : w1.cell? ⟨gd, 2, none⟩ = some (.slice none 0 0) := (blk_cell S1.out.hd 2).trans rfl
            have kz2 := blk_frozen S1.out.hd 2
            have kd3 : w1.cell? ⟨gd, 3, none⟩ = some (.slice none 0 0) := (blk_cell S1.out.hd 3).trans rfl
            have kz3 := blk_frozen S1.out.hd 3
            go_wp2_with fail
            have SF := S1.out.fill (y0 := .int .i64 4) (y1 := .bool true) (y2 := (.slice (some ⟨gr, 0, none⟩) ss.length cr)) (y3 := (.slice Ad dd.length cd))
            refine bodyPost_ret (results_cell_row rfl _ _ gd 48 _ (0, 0) _ rfl SF.hd Try.underlying48 rfl (by kernel_rfl)) rfl ⟨_, _, by rw [HC2.out], ?_, ?_, SF.hB⟩
            · unfold doSecs; rw [HC2.out]; exact SF.H1
            · unfold doDead; rw [HC2.out]; exact SF.H2
          · have hla1 : ((rd_T50 ss of).f4 == 1) = false := beq_eq_false_iff_ne.mpr hla
            have HC2 := Aside0.mk (show doCode l ss dd 5 of = 0 by unfold doCode; rw [if_neg (by decide), if_pos rfl, HDO.out, if_neg (by decide), if_neg hla])
            clear hla
            go_wp2_with fail
            go_meet
            case rel =>
              obtain ⟨hR, hg⟩ := ((((SecSt.start S1.out.H1 HO0.out HO1.out).put0 HO0.out HO1.out (u := 0) rfl).put1 HO0.out HO1.out (u := 0) rfl).put2 HO0.out HO1.out (u := false) rfl |>.put3 HO0.out HO1.out (u := true) rfl).put4 HO0.out HO1.out (u := 0) rfl
              exact ⟨⟨S1.out.sec hR hg⟩, HC2⟩
    case rest =>
      obtain ⟨SM, HC0⟩ := hcut
      have HLM := Aside0.mk (midSecs_length l ss op of dir)
      have HLD := Aside0.mk (midDead_length dd op of)
      have HDS := Aside0.mk (show retold l (midDead dd op of) (midSecs l ss op of dir) = doSecs l ss dd op of dir by unfold doSecs; rw [if_pos HC0.out])
      have HDD := Aside0.mk (show midDead dd op of = doDead l ss dd op of by unfold doDead; rw [if_pos HC0.out])
      clear SA ce0 ce1 ce2 cs0 cs1 cs2 cl0 cl1
      generalize midSecs l ss op of dir = ms at SM HLM HDS
      generalize midDead dd op of = md at SM HLD HDS HDD
      have kge0 : wc.cell? ⟨ge, 0, none⟩ = some (.int .i64 op) := (blk_cell SM.out.he 0).trans rfl
      have kge1 : wc.cell? ⟨ge, 1, none⟩ = some (.int .i64 of) := (blk_cell SM.out.he 1).trans rfl
      have kge2 : wc.cell? ⟨ge, 2, none⟩ = some (.int .i64 dir) := (blk_cell SM.out.he 2).trans rfl
      have kgs0 : wc.cell? ⟨gs, 0, none⟩ = some (.bool true) := (blk_cell SM.out.hs 0).trans rfl
      have kgs1 : wc.cell? ⟨gs, 1, none⟩ = some (.slice (some ⟨gr, 0, none⟩) ss.length cr) := (blk_cell SM.out.hs 1).trans rfl
      have kgs2 : wc.cell? ⟨gs, 2, none⟩ = some (.slice Ad dd.length cd) := (blk_cell SM.out.hs 2).trans rfl
      have kgl0 : wc.cell? ⟨gl, 0, none⟩ = some (.int .i64 n) := (blk_cell SM.out.hl 0).trans rfl
      have kgl1 : wc.cell? ⟨gl, 1, none⟩ = some (.slice A l.length c) := (blk_cell SM.out.hl 1).trans rfl
      go_wp2_with fail
      go_loopg [119] ss.length (fun kq v w' => ∃ j : Nat, v = .int .i64 j ∧ Aside0 (j + kq = ss.length) ∧ Aside0 (DoSt w w' gl gs ge gd [.int .i64 n, .slice A l.length c] [.bool true, .slice (some ⟨gr, 0, none⟩) ss.length cr, .slice Ad dd.length cd] [.int .i64 op, .int .i64 of, .int .i64 dir] [.int .i64 0, .bool false, .slice none 0 0, .slice none 0 0] (.slice (some ⟨gr, 0, none⟩) ss.length cr) (.slice Ad dd.length cd) (retoldTo l md ms j) md))
      case atStart => exact ⟨0, rfl, ⟨by omega⟩, ⟨by rw [retoldTo_zero]; exact SM.out⟩⟩
      case round =>
        obtain ⟨j, rfl, HJ, SL⟩ := hrel
        clear kge0 kge1 kge2 kgs0 kgs1 kgs2 kgl0 kgl1
        clear SM
        by_cases hlt : j < ss.length
        · cases gk with
          | zero => exact absurd HJ.out (by omega)
          | succ gk =>
            have hlt' : decide ((j : Int) < (ss.length : Int)) = true := decide_eq_true (by omega)
            have q0 : (0 : Int) ≤ (j : Int) := by omega
            have q1 : (j : Int) < (ss.length : Int) := by omega
            have q2 : ss.length ≤ 60 := by have := lay_n HN.out.1; have := HN.out.2.1; omega
            go_upto_block 2 with fail
            go_cut [11] from 121 to 130 (fun v11 wx => Aside0 (DoSt w wx gl gs ge gd [.int .i64 n, .slice A l.length c] [.bool true, .slice (some ⟨gr, 0, none⟩) ss.length cr, .slice Ad dd.length cd] [.int .i64 op, .int .i64 of, .int .i64 dir] [.int .i64 0, .bool false, .slice none 0 0, .slice none 0 0] (.slice (some ⟨gr, 0, none⟩) ss.length cr) (.slice Ad dd.length cd) (retoldTo l md ms (j + 1)) md))
            case first =>
              have HLL := Aside0.mk (show l.length ≤ 1048576 by have := lay_n HN.out.1; omega)
              have HML := Aside0.mk (show md.length = l.length by rw [HLD.out]; exact HN.out.2.2.1)
              have n1 : gr ≠ gs := fun e => Kd.R_ne SL.out.H1 SL.out.hs (by decide) (by rw [e]; rfl)
              have n2 : gr ≠ gl := fun e => Kd.R_ne SL.out.H1 SL.out.hl (by decide) (by rw [e]; rfl)
              have kgs0 : wr.cell? ⟨gs, 0, none⟩ = some (.bool true) := (blk_cell SL.out.hs 0).trans rfl
              have kgs1 : wr.cell? ⟨gs, 1, none⟩ = some (.slice (some ⟨gr, 0, none⟩) ss.length cr) := (blk_cell SL.out.hs 1).trans rfl
              have kgs2 : wr.cell? ⟨gs, 2, none⟩ = some (.slice Ad dd.length cd) := (blk_cell SL.out.hs 2).trans rfl
              have kgl0 : wr.cell? ⟨gl, 0, none⟩ = some (.int .i64 n) := (blk_cell SL.out.hl 0).trans rfl
              have kgl1 : wr.cell? ⟨gl, 1, none⟩ = some (.slice A l.length c) := (blk_cell SL.out.hl 1).trans rfl
              have SD := Aside0.mk (SL.out.up (below_drew1 (Below.refl _ _)))
              have hln : ss.length = (retoldTo l md ms j).length := by rw [retoldTo_length, HLM.out]
              have HLN := Aside0.mk hln
              have HLM2 := Aside0.mk (show dd.length = md.length from HLD.out.symm)
              clear hln
              go_upto_region 31 with fail
              go_region_held3 (fun w' => w'.cell? ⟨gl, 0, none⟩ = some (.int .i64 n) ∧ w'.cell? ⟨gl, 1, none⟩ = some (.slice A l.length c) ∧ w'.cell? ⟨gs, 0, none⟩ = some (.bool true) ∧ w'.cell? ⟨gs, 1, none⟩ = some (.slice (some ⟨gr, 0, none⟩) ss.length cr) ∧ w'.cell? ⟨gs, 2, none⟩ = some (.slice Ad dd.length cd))
                (first | go_keep | (go_split_ands; (repeat' apply And.intro) <;> (refine pw_cell_below hb ?_; assumption)) | (go_split_ands; (repeat' apply And.intro) <;> (rw [World.cell?_setCell_far _ _ _ _ (by assumption)]; assumption)))
                (first | (go_at_call 97; refine (told_of (j : Int) (Kd.C_below HR.out SD.out.hB) hc SD.out.H1 SD.out.H2 HLN.out HLM2.out HLL.out HML.out q0 q1).mono ?_; rintro e w' ⟨rfl, hb⟩; have S2 := Aside0.mk (SD.out.up hb); obtain ⟨z0, z1, z2, z3, z4, zf0, zf1, zf2, zf3, zf4⟩ := sec_at S2.out.H1 (j : Int) q0 q1; rw [Int.toNat_natCast] at z0 zf0; clear z1 z2 z3 z4 zf1 zf2 zf3 zf4))
              all_goals (go_wp2_with fail; go_meet)
              obtain ⟨hR, hg⟩ := (SecSt.start S2.out.H1 q0 q1).put0 q0 q1 (u := toldC l md (j : Int) (rd_T50 (retoldTo l md ms j) (j : Int))) (show j * 5 = (j : Int).toNat * 5 + 0 by rw [Int.toNat_natCast, Nat.add_zero])
              rw [retold_step l md ms j (by rw [HLM.out]; exact hlt)] at hR
              exact ⟨S2.out.sec hR hg⟩
            case rest =>
              go_wp2_with fail
              go_roundg gk
              case measure => omega
              case rel => exact ⟨j + 1, by go_num, ⟨by have := HJ.out; omega⟩, hcut⟩
        · have hlt' : decide ((j : Int) < (ss.length : Int)) = false := decide_eq_false (by omega)
          have hj : j = ss.length := by have := HJ.out; omega
          have hre : retoldTo l md ms j = retold l md ms := by rw [retold, HLM.out, hj]
          have SF0 := Aside0.mk (show DoSt w wr gl gs ge gd [.int .i64 n, .slice A l.length c] [.bool true, .slice (some ⟨gr, 0, none⟩) ss.length cr, .slice Ad dd.length cd] [.int .i64 op, .int .i64 of, .int .i64 dir] [.int .i64 0, .bool false, .slice none 0 0, .slice none 0 0] (.slice (some ⟨gr, 0, none⟩) ss.length cr) (.slice Ad dd.length cd) (doSecs l ss dd op of dir) (doDead l ss dd op of) by rw [← HDS.out, ← HDD.out, ← hre]; exact SL.out)
          clear hj hre SL
          have kgs0 : wr.cell? ⟨gs, 0, none⟩ = some (.bool true) := (blk_cell SF0.out.hs 0).trans rfl
          have kgs1 : wr.cell? ⟨gs, 1, none⟩ = some (.slice (some ⟨gr, 0, none⟩) ss.length cr) := (blk_cell SF0.out.hs 1).trans rfl
          have kgs2 : wr.cell? ⟨gs, 2, none⟩ = some (.slice Ad dd.length cd) := (blk_cell SF0.out.hs 2).trans rfl
          have kd0 : wr.cell? ⟨gd, 0, none⟩ = some (.int .i64 0) := (blk_cell SF0.out.hd 0).trans rfl
          have kz0 := blk_frozen SF0.out.hd 0
          have kd1 : wr.cell? ⟨gd, 1, none⟩ = some (.bool false) := (blk_cell SF0.out.hd 1).trans rfl
          have kz1 := blk_frozen SF0.out.hd 1
          have kd2 : wr.cell? ⟨gd, 2, none⟩ = some (.slice none 0 0) := (blk_cell SF0.out.hd 2).trans rfl
          have kz2 := blk_frozen SF0.out.hd 2
          have kd3 : wr.cell? ⟨gd, 3, none⟩ = some (.slice none 0 0) := (blk_cell SF0.out.hd 3).trans rfl
          have kz3 := blk_frozen SF0.out.hd 3
          go_wp2_with fail
          have SF := SF0.out.fill (y0 := .int .i64 0) (y1 := .bool true) (y2 := (.slice (some ⟨gr, 0, none⟩) ss.length cr)) (y3 := (.slice Ad dd.length cd))
          exact bodyPost_ret (results_cell_row rfl _ _ gd 48 _ (0, 0) _ rfl SF.hd Try.underlying48 rfl (by kernel_rfl)) rfl ⟨_, _, by rw [HC0.out], SF.H1, SF.H2, SF.hB⟩
end Go.Proofs.Ytpdnabhpkdchjaa.P
namespace Go.Proofs.Ytpdnabhpkdchjaa.P
open Go.RowKit Go.Proofs.YtpdnabhpkdchjaaW.PrintWords Go.Proofs.YtpdnabhpkdchjaaW.PrintLast Go.Proofs.YtpdnabhpkdchjaaW.PrintMore
set_option linter.unusedVariables false
structure RnSt (w0 w : World) (gl gs : Nat) (lv sv : List Value) (u1 u2 : Value) (s : S46) (v : Value) (out : List S48) : Prop where
  hl : w.heap[gl]? = some (.cells lv.toArray 30 (0, 0))
  hs : w.heap[gs]? = some (.cells sv.toArray 46 (0, 0))
  V1 : Kd.V k50 50 w w0.heap.size (fun k => some k = u1.ownBlock) u1 s.f1
  V2 : Kd.V Kd.bool 4 w w0.heap.size (fun k => some k = u2.ownBlock) u2 s.f2
  HS : Kd.S k48 48 w w0.heap.size (fun _ => True) v out
  hB : Below w0.heap.size w0 w
  gle : w0.heap.size ≤ gl
  gse : w0.heap.size ≤ gs
structure MdSt (w0 wr w : World) (gl gs gd : Nat) (lv sv dv : List Value) (v2 v3 : Value) (ss : List S50) (dd : List Bool) (v : Value) (out : List S48) : Prop where
  hl : w.heap[gl]? = some (.cells lv.toArray 30 (0, 0))
  hs : w.heap[gs]? = some (.cells sv.toArray 46 (0, 0))
  hd : w.heap[gd]? = some (.cells dv.toArray 48 (0, 0))
  R1 : Kd.R k50 50 w wr.heap.size (fun _ => True) v2 ss
  R2 : Kd.R Kd.bool 4 w wr.heap.size (fun _ => True) v3 dd
  HS : Kd.S k48 48 w w0.heap.size (fun k => k < wr.heap.size) v out
  hB : Below w0.heap.size w0 w
  gle : w0.heap.size ≤ gl
  gse : w0.heap.size ≤ gs
  gde : wr.heap.size ≤ gd
  hw : w0.heap.size ≤ wr.heap.size
section
variable {w0 wr w w' w1 : World} {gl gs gd : Nat} {lv sv dv : List Value} {u1 u2 v v1 v2 v3 : Value} {s : S46} {ss : List S50} {dd : List Bool} {out : List S48}
theorem RnSt.up (h : RnSt w0 w gl gs lv sv u1 u2 s v out) (hb : Below w.heap.size w w') : RnSt w0 w' gl gs lv sv u1 u2 s v out where
  hl := blk_below h.hl hb
  hs := blk_below h.hs hb
  V1 := Kd.V_below h.V1 hb
  V2 := Kd.V_below h.V2 hb
  HS := Kd.S_below h.HS hb
  hB := below_step h.hB hb
  gle := h.gle
  gse := h.gse
theorem RnSt.mid (h : RnSt w0 wr gl gs lv sv u1 u2 s v out) (hb : Below wr.heap.size wr w) (hd : w.heap[gd]? = some (.cells dv.toArray 48 (0, 0))) (gde : wr.heap.size ≤ gd) (R1 : Kd.R k50 50 w wr.heap.size (fun _ => True) v2 ss) (R2 : Kd.R Kd.bool 4 w wr.heap.size (fun _ => True) v3 dd) :
    MdSt w0 wr w gl gs gd lv sv dv v2 v3 ss dd v out where
  hl := blk_below h.hl hb
  hs := blk_below h.hs hb
  hd := hd
  R1 := R1
  R2 := R2
  HS := Kd.S_below (Kd.S_mono (Kd.S_bound h.HS) (fun _ hk => hk.2.2.1)) hb
  hB := below_step h.hB hb
  gle := h.gle
  gse := h.gse
  gde := gde
  hw := h.hB.size
def okp (v2 v3 : Value) (k : Nat) : Prop := some k = v2.ownBlock ∨ some k = v3.ownBlock
theorem own_from {α : Type} {d : Kd α} {e : Nat} {base : Nat} {ok : Nat → Prop} {xs : List α} (h : d.R e w base ok v xs) (k : Nat) (hk : v.ownBlock = some k) : base ≤ k := by
  rcases Kd.R_base2 h with h2 | ⟨j, h2, h3⟩
  · rw [h2] at hk; cases hk
  · rw [h2] at hk; cases hk; exact h3
theorem MdSt.okp_new (h : MdSt w0 wr w gl gs gd lv sv dv v2 v3 ss dd v out) {k : Nat} (hk : okp v2 v3 k) : wr.heap.size ≤ k := by
  rcases hk with hk | hk
  · exact own_from h.R1 k hk.symm
  · exact own_from h.R2 k hk.symm
theorem MdSt.okp_ne (h : MdSt w0 wr w gl gs gd lv sv dv v2 v3 ss dd v out) {k : Nat} (hk : okp v2 v3 k) : some k ≠ v.ownBlock := by
  intro e
  have h1 := h.okp_new hk
  have h2 : k < wr.heap.size := (Kd.S_R h.HS).1 k e.symm
  omega
theorem MdSt.rest (h : MdSt w0 wr w gl gs gd lv sv dv v2 v3 ss dd v out) : Kd.S k48 48 w w0.heap.size (fun k => True ∧ ¬ okp v2 v3 k) v out :=
  Kd.S_mono h.HS (fun k hk => ⟨trivial, fun hp => by have := h.okp_new hp; omega⟩)
theorem MdSt.elem (h : MdSt w0 wr w gl gs gd lv sv dv v2 v3 ss dd v out) (code : Int) (b : Bool) : k48.M w w0.heap.size (okp v2 v3) ⟨code, ⟨b, ss, dd⟩⟩ [.int .i64 code, .bool b, v2, v3] :=
  k48_mkM w _ _ ⟨code, ⟨b, ss, dd⟩⟩ (Kd.R_mono (Kd.R_tight rfl (Kd.R_lower h.R1 h.hw)) (fun _ hk => .inl hk)) (Kd.R_mono (Kd.R_tight rfl (Kd.R_lower h.R2 h.hw)) (fun _ hk => .inr hk))
theorem MdSt.fin {x0 x1 x2 : Value} (h : MdSt w0 wr w gl gs gd lv [x0, x1, x2] dv v2 v3 ss dd v out) {code : Int} {b : Bool} (HS1 : Kd.S k48 48 w1 w0.heap.size (fun _ => True) v1 (out ++ [⟨code, ⟨b, ss, dd⟩⟩])) (hB1 : Below w0.heap.size w0 w1) (hg : w.grownBy w1 v.ownBlock) :
    RnSt w0 (((w1.setCell ⟨gs, 0, none⟩ (.bool b)).setCell ⟨gs, 1, none⟩ v2).setCell ⟨gs, 2, none⟩ v3) gl gs lv [.bool b, v2, v3] v2 v3 ⟨b, ss, dd⟩ v1 (out ++ [⟨code, ⟨b, ss, dd⟩⟩]) := by
  have ngs : ∀ k, some k = v2.ownBlock → k ≠ gs := fun k hk e => Kd.R_ne h.R1 h.hs (by decide) (e ▸ hk)
  have ngs3 : ∀ k, some k = v3.ownBlock → k ≠ gs := fun k hk e => Kd.R_ne h.R2 h.hs (by decide) (e ▸ hk)
  have hl1 := blk_grown h.hl hg (Kd.S_ne h.HS h.hl (by decide))
  have hs1 := blk_grown h.hs hg (Kd.S_ne h.HS h.hs (by decide))
  have ne := blk_ne hl1 hs1 (by decide)
  have W1 : Kd.V k50 50 w1 w0.heap.size (fun k => some k = v2.ownBlock) v2 ss := Kd.V_grown (Kd.R_V (Kd.R_tight rfl h.R1)) hg (fun k hk => h.okp_ne (.inl hk))
  have W2 : Kd.V Kd.bool 4 w1 w0.heap.size (fun k => some k = v3.ownBlock) v3 dd := Kd.V_grown (Kd.R_V (Kd.R_tight rfl h.R2)) hg (fun k hk => h.okp_ne (.inr hk))
  have hq : ∀ q, q ∈ 48 :: k48.E → q ≠ 46 := by decide
  have s0 := blk_put hs1 0 (.bool b) rfl
  have s1 := blk_put s0 1 v2 rfl
  have s2 := blk_put s1 2 v3 rfl
  exact {
    hl := blk_far (blk_far (blk_far hl1 ne _) ne _) ne _
    hs := s2
    V1 := Kd.V_far (Kd.V_far (Kd.V_far W1 (p := ⟨gs, 0, none⟩) ngs _) (p := ⟨gs, 1, none⟩) ngs _) (p := ⟨gs, 2, none⟩) ngs _
    V2 := Kd.V_far (Kd.V_far (Kd.V_far W2 (p := ⟨gs, 0, none⟩) ngs3 _) (p := ⟨gs, 1, none⟩) ngs3 _) (p := ⟨gs, 2, none⟩) ngs3 _
    HS := Kd.S_set (Kd.S_set (Kd.S_set HS1 hs1 hq 0 _) s0 hq 1 _) s1 hq 2 _
    hB := below_set (below_set (below_set hB1 h.gse) h.gse) h.gse
    gle := h.gle
    gse := h.gse }
theorem MdSt.at_ (h : MdSt w0 wr w gl gs gd lv sv dv v2 v3 ss dd v out) (hg : w.grownBy w1 v.ownBlock) : w1.heap[gd]? = some (.cells dv.toArray 48 (0, 0)) ∧ w1.heap[gs]? = some (.cells sv.toArray 46 (0, 0)) :=
  ⟨blk_grown h.hd hg (fun e => by have := (Kd.S_R h.HS).1 gd e.symm; have := h.gde; omega), blk_grown h.hs hg (Kd.S_ne h.HS h.hs (by decide))⟩
theorem MdSt.up (h : MdSt w0 wr w gl gs gd lv sv dv v2 v3 ss dd v out) (hb : Below w.heap.size w w') : MdSt w0 wr w' gl gs gd lv sv dv v2 v3 ss dd v out where
  hl := blk_below h.hl hb
  hs := blk_below h.hs hb
  hd := blk_below h.hd hb
  R1 := R_up h.R1 hb
  R2 := R_up h.R2 hb
  HS := Kd.S_below h.HS hb
  hB := below_step h.hB hb
  gle := h.gle
  gse := h.gse
  gde := h.gde
  hw := h.hw
theorem RnSt.midA {code : Int} {b : Bool} (h : RnSt w0 wr gl gs lv sv u1 u2 s v out) (hb : Below wr.heap.size wr w) (R1 : Kd.R k50 50 w wr.heap.size (fun _ => True) v2 ss) (R2 : Kd.R Kd.bool 4 w wr.heap.size (fun _ => True) v3 dd) :
    MdSt w0 wr (w.alloc (.cells #[.int .i64 code, .bool b, v2, v3] 48)) gl gs w.heap.size lv sv [.int .i64 code, .bool b, v2, v3] v2 v3 ss dd v out ∧ Below wr.heap.size wr (w.alloc (.cells #[.int .i64 code, .bool b, v2, v3] 48)) :=
  ⟨h.mid (below_alloc hb _) (heap_alloc_new w _) hb.size (R_up R1 (below_alloc (Below.refl _ _) _)) (R_up R2 (below_alloc (Below.refl _ _) _)), below_alloc hb _⟩
theorem RnSt.midB {code : Int} {b : Bool} {x0 x1 x2 x3 : Value} (h : RnSt w0 wr gl gs lv sv u1 u2 s v out) (hb : Below wr.heap.size wr w) (hd : w.heap[gd]? = some (.cells #[x0, x1, x2, x3] 48 (0, 0))) (gde : wr.heap.size ≤ gd) (R1 : Kd.R k50 50 w wr.heap.size (fun _ => True) v2 ss) (R2 : Kd.R Kd.bool 4 w wr.heap.size (fun _ => True) v3 dd) :
    MdSt w0 wr ((((w.setCell ⟨gd, 0, none⟩ (.int .i64 code)).setCell ⟨gd, 1, none⟩ (.bool b)).setCell ⟨gd, 2, none⟩ v2).setCell ⟨gd, 3, none⟩ v3) gl gs gd lv sv [.int .i64 code, .bool b, v2, v3] v2 v3 ss dd v out ∧
    Below wr.heap.size wr ((((w.setCell ⟨gd, 0, none⟩ (.int .i64 code)).setCell ⟨gd, 1, none⟩ (.bool b)).setCell ⟨gd, 2, none⟩ v2).setCell ⟨gd, 3, none⟩ v3) := by
  have B := below_set (j := 3) (v := v3) (below_set (j := 2) (v := v2) (below_set (j := 1) (v := .bool b) (below_set (j := 0) (v := .int .i64 code) hb gde) gde) gde) gde
  have n1 := Kd.R_ne R1 hd (by decide)
  have n2 := Kd.R_ne R2 hd (by decide)
  exact ⟨h.mid B (blk_put (blk_put (blk_put (blk_put hd 0 _ rfl) 1 _ rfl) 2 _ rfl) 3 _ rfl) gde (R_off rfl (R_off rfl (R_off rfl (R_off rfl R1 n1 _) n1 _) n1 _) n1 _) (R_off rfl (R_off rfl (R_off rfl (R_off rfl R2 n2 _) n2 _) n2 _) n2 _), B⟩
end
theorem alloc_blk {w w' : World} {o : Obj} (hb : Below (w.alloc o).heap.size (w.alloc o) w') : w'.heap[w.heap.size]? = some o := blk_below (heap_alloc_new w o) hb
theorem alloc_blk_drew {w w' : World} {o : Obj} (hb : Below (w.alloc o).drew.heap.size (w.alloc o).drew w') : w'.heap[w.heap.size]? = some o := blk_below (blk_drew (heap_alloc_new w o)) hb
theorem begin_is {n : Int} {A : Option Addr} {c : Nat} {l : List S88} {w : World} (hr : Kd.C k88 w A l.length l) (hc : l.length ≤ c) (hl : layoutOk n l = 0) :
    Calls Try.prog 44 #[.agg #[.int .i64 n, .slice A l.length c]] w fun e w' => ∃ v1_ v2_ : Value, e = .returned (.agg #[.bool true, v1_, v2_]) ∧ Kd.R k50 50 w' w.heap.size (fun _ => True) v1_ (st0 n l).f1 ∧ Kd.R Kd.bool 4 w' w.heap.size (fun _ => True) v2_ (st0 n l).f2 ∧ Below w.heap.size w w' := by
  have h := impl_Begin.calls n A c l (begin3 n l).1 (begin3 n l).2.1 (begin3 n l).2.2 w hr hc (implBegin_eq n l)
  rw [show begin3 n l = (true, (st0 n l).f1, (st0 n l).f2) by rw [begin3, if_pos hl]; rfl] at h
  exact h
end Go.Proofs.Ytpdnabhpkdchjaa.P
