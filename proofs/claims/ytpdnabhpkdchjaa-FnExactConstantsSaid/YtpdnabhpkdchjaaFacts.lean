/- Closed facts on the program that every row of this seat asks for, each in a declaration of its own, and how a row's facts are put together; there are no conditions. -/
import Derived.Test.YtpdnabhpkdchjaaRows
import Derived.JoinedOf
import Derived.KernelRfl
namespace Go.Proofs.Ytpdnabhpkdchjaa.Facts

/-- A list of signs by their numbers. -/
def sg (l : List Nat) : List Char := l.map Char.ofNat
theorem words_cons (c : Char) (hc : c ≠ Char.ofNat 32) (r : List Char) : wordsSigns (c :: r) = match wordsSigns r with | w :: ws => (c :: w) :: ws | [] => [[c]] := by
  rw [wordsSigns.eq_3 c r (fun h => hc h)]
  cases wordsSigns r <;> rfl
theorem words_blank (r : List Char) : wordsSigns (Char.ofNat 32 :: r) = [] :: wordsSigns r := rfl
theorem words_ne (l : List Char) : ∃ w ws, wordsSigns l = w :: ws := by
  induction l with
  | nil => exact ⟨[], [], rfl⟩
  | cons c r ih =>
    by_cases hc : c = Char.ofNat 32
    · subst hc; exact ⟨[], wordsSigns r, words_blank r⟩
    · obtain ⟨w, ws, h⟩ := ih
      exact ⟨c :: w, ws, by rw [words_cons c hc, h]⟩
/-- A word, a blank, and the rest. -/
theorem words_word (a r : List Char) (ha : ∀ c ∈ a, c ≠ Char.ofNat 32) : wordsSigns (a ++ Char.ofNat 32 :: r) = a :: wordsSigns r := by
  induction a with
  | nil => exact words_blank r
  | cons c a ih =>
    have h := ih (fun x hx => ha x (List.mem_cons_of_mem _ hx))
    show wordsSigns (c :: (a ++ Char.ofNat 32 :: r)) = _
    rw [words_cons c (ha c List.mem_cons_self), h]

def w1 : List Nat := [104, 97, 114, 110, 101, 115, 115]
def w2 : List Nat := [99, 98, 100, 51, 97, 55, 55, 98, 49, 48, 100, 98, 52, 102, 101, 102, 49, 101, 52, 51, 98, 57, 101, 100, 100, 49, 99, 98, 52, 98, 97, 48, 51, 53, 101, 98, 56, 53, 99, 55, 98, 97, 57, 57, 53, 52, 49, 57, 56, 56, 102, 51, 50, 55, 49, 52, 54, 99, 55, 50, 55, 52, 102, 98]
def w3 : List Nat := [99, 117, 116]
def w4 : List Nat := [97, 116, 32, 108, 111, 111, 112, 46, 101, 120, 97, 109, 112, 108, 101, 47, 116, 114, 101, 97, 100, 108, 101, 47, 108, 97, 119, 115, 46, 70, 110, 69, 120, 97, 99, 116, 67, 111, 110, 115, 116, 97, 110, 116, 115, 32, 108, 111, 111, 112, 46, 101, 120, 97, 109, 112, 108, 101, 47, 116,
  114, 101, 97, 100, 108, 101, 47, 108, 97, 119, 115, 46, 70, 110, 69, 120, 97, 99, 116, 76, 97, 121, 111, 117, 116, 79, 107, 32, 108, 111, 111, 112, 46, 101, 120, 97, 109, 112, 108, 101, 47, 116, 114, 101, 97, 100, 108, 101, 47, 108, 97, 119, 115, 46, 70, 110, 84, 111, 112, 32,
  108, 111, 111, 112, 46, 101, 120, 97, 109, 112, 108, 101, 47, 116, 114, 101, 97, 100, 108, 101, 47, 108, 97, 119, 115, 46, 70, 110, 69, 120, 97, 99, 116, 69, 118, 101, 110, 116, 79, 107, 32, 108, 111, 111, 112, 46, 101, 120, 97, 109, 112, 108, 101, 47, 116, 114, 101, 97, 100, 108,
  101, 47, 108, 97, 119, 115, 46, 70, 110, 69, 120, 97, 99, 116, 65, 114, 111, 117, 110, 100, 32, 108, 111, 111, 112, 46, 101, 120, 97, 109, 112, 108, 101, 47, 116, 114, 101, 97, 100, 108, 101, 47, 108, 97, 119, 115, 46, 70, 110, 69, 120, 97, 99, 116, 66, 101, 103, 105, 110, 32,
  108, 111, 111, 112, 46, 101, 120, 97, 109, 112, 108, 101, 47, 116, 114, 101, 97, 100, 108, 101, 47, 108, 97, 119, 115, 46, 70, 110, 69, 120, 97, 99, 116, 72, 111, 110, 101, 115, 116, 32, 108, 111, 111, 112, 46, 101, 120, 97, 109, 112, 108, 101, 47, 116, 114, 101, 97, 100, 108, 101,
  47, 108, 97, 119, 115, 46, 70, 110, 83, 112, 111, 105, 108, 116, 32, 108, 111, 111, 112, 46, 101, 120, 97, 109, 112, 108, 101, 47, 116, 114, 101, 97, 100, 108, 101, 47, 108, 97, 119, 115, 46, 70, 110, 69, 120, 97, 99, 116, 83, 116, 97, 116, 101, 79, 107, 32, 108, 111, 111, 112,
  46, 101, 120, 97, 109, 112, 108, 101, 47, 116, 114, 101, 97, 100, 108, 101, 47, 108, 97, 119, 115, 46, 70, 110, 69, 120, 97, 99, 116, 84, 114, 117, 116, 104, 32, 108, 111, 111, 112, 46, 101, 120, 97, 109, 112, 108, 101, 47, 116, 114, 101, 97, 100, 108, 101, 47, 108, 97, 119, 115,
  46, 70, 110, 74, 117, 115, 116, 32, 108, 111, 111, 112, 46, 101, 120, 97, 109, 112, 108, 101, 47, 116, 114, 101, 97, 100, 108, 101, 47, 108, 97, 119, 115, 46, 70, 110, 83, 97, 102, 101, 32, 108, 111, 111, 112, 46, 101, 120, 97, 109, 112, 108, 101, 47, 116, 114, 101, 97, 100, 108,
  101, 47, 108, 97, 119, 115, 46, 70, 110, 83, 119, 97, 112, 32, 108, 111, 111, 112, 46, 101, 120, 97, 109, 112, 108, 101, 47, 116, 114, 101, 97, 100, 108, 101, 47, 108, 97, 119, 115, 46, 70, 110, 69, 120, 97, 99, 116, 71, 97, 112, 115, 32, 108, 111, 111, 112, 46, 101, 120, 97,
  109, 112, 108, 101, 47, 116, 114, 101, 97, 100, 108, 101, 47, 108, 97, 119, 115, 46, 70, 110, 69, 120, 97, 99, 116, 68, 111, 32, 108, 111, 111, 112, 46, 101, 120, 97, 109, 112, 108, 101, 47, 116, 114, 101, 97, 100, 108, 101, 47, 108, 97, 119, 115, 46, 70, 110, 84, 114, 97, 105,
  110, 32, 108, 111, 111, 112, 46, 101, 120, 97, 109, 112, 108, 101, 47, 116, 114, 101, 97, 100, 108, 101, 47, 108, 97, 119, 115, 46, 70, 110, 69, 120, 97, 99, 116, 82, 117, 110, 32, 108, 111, 111, 112, 46, 101, 120, 97, 109, 112, 108, 101, 47, 116, 114, 101, 97, 100, 108, 101, 47,
  108, 97, 119, 115, 46, 70, 110, 69, 120, 97, 99, 116, 80, 97, 115, 115, 105, 110, 103, 32, 108, 111, 111, 112, 46, 101, 120, 97, 109, 112, 108, 101, 47, 116, 114, 101, 97, 100, 108, 101, 47, 108, 97, 119, 115, 46, 70, 110, 83, 119, 101, 101, 112]
theorem init_is : Try.prog.initOrder = String.ofList (sg (w1 ++ 32 :: (w2 ++ 32 :: (w3 ++ 32 :: w4)))) := by kernel_rfl
theorem init_list : Try.prog.initOrder.toList = sg w1 ++ Char.ofNat 32 :: (sg w2 ++ Char.ofNat 32 :: (sg w3 ++ Char.ofNat 32 :: sg w4)) := by
  rw [init_is, String.toList_ofList]
  simp [sg]
theorem w1_is : sg w1 = "harness".toList := by kernel_rfl
theorem w2_sum : isSumSigns (sg w2) = true := by kernel_rfl
theorem w3_is : sg w3 = "cut".toList := by kernel_rfl
theorem w1_nb : (sg w1).all (· != Char.ofNat 32) = true := by kernel_rfl
theorem w2_nb : (sg w2).all (· != Char.ofNat 32) = true := by kernel_rfl
theorem w3_nb : (sg w3).all (· != Char.ofNat 32) = true := by kernel_rfl
theorem nb {l : List Char} (h : l.all (· != Char.ofNat 32) = true) : ∀ c ∈ l, c ≠ Char.ofNat 32 := by
  intro c hc
  have := List.all_eq_true.1 h c hc
  simpa using this
theorem words_init : behindMainWord (wordsSigns Try.prog.initOrder.toList) = "cut".toList :: wordsSigns (sg w4) := by
  rw [init_list, words_word _ _ (nb w1_nb), words_word _ _ (nb w2_nb), words_word _ _ (nb w3_nb), w1_is, w3_is]
  simp only [behindMainWord]
  rw [if_pos]
  rw [w2_sum]
  rfl

theorem may_of (P : Program) (r : List (List Char)) (h : behindMainWord (wordsSigns P.initOrder.toList) = "cut".toList :: r) (h1 : P.laysLater = false) (h2 : P.bearsReflect = false) (h3 : P.doorRows = []) : P.mayEnter = true := by
  unfold Program.mayEnter
  rw [h]
  unfold Program.doorFits
  rw [h1, h2, h3]
  kernel_rfl
theorem lifts_of (P : Program) (r : List (List Char)) (h : behindMainWord (wordsSigns P.initOrder.toList) = "cut".toList :: r) : P.headLifts = [] := by
  unfold Program.headLifts
  rw [h]
  kernel_rfl
theorem final_of (P : Program) (r : List (List Char)) (h : behindMainWord (wordsSigns P.initOrder.toList) = "cut".toList :: r) : P.liftsFinal = false := by
  unfold Program.liftsFinal
  rw [lifts_of P r h, h]
  kernel_rfl
theorem make_of (P : Program) (r : List (List Char)) (h : behindMainWord (wordsSigns P.initOrder.toList) = "cut".toList :: r) : P.make = some .cut := by
  unfold Program.make
  rw [h]
  generalize P.headLifts = x
  kernel_rfl
theorem laysLater : Try.prog.laysLater = false := by kernel_rfl
theorem bearsReflect : Try.prog.bearsReflect = false := by kernel_rfl
theorem doorRows : Try.prog.doorRows = [] := by kernel_rfl
theorem mayEnter : Try.prog.mayEnter = true := may_of _ _ words_init laysLater bearsReflect doorRows
theorem liftsFinal : Try.prog.liftsFinal = false := final_of _ _ words_init
theorem make : Try.prog.make = some .cut := make_of _ _ words_init
theorem laidOut : laidOutB Try.prog = true := by kernel_rfl
theorem mapsRowed : Go.mapsRowed Try.prog = true := by kernel_rfl
theorem stops : (Try.prog.stops == []) = true := by kernel_rfl
theorem stopKnobs : (Try.prog.stopKnobs == []) = true := by kernel_rfl
theorem plainKeys : Try.prog.plainKeys = true := by kernel_rfl
theorem stopsHeard : Try.prog.stopsHeard = true := by kernel_rfl
theorem own : ownKnob Try.prog.godebug = none := by kernel_rfl
end Go.Proofs.Ytpdnabhpkdchjaa.Facts
