/- The statement FnExactReadEventsCardSaid holds of the given program, for every argument; there are no conditions. (Part 3 of 5.) -/
import Derived.Test.YtpdnabhpkdchjaaDoorBFnExactReadEvents2
import Derived.Shelf.Strings.Builder1
import Derived.Shelf.Small.Strs
import Derived.Shelf.Strconv.Itoa0
import Derived.Shelf.Strconv.Itoa1
import Derived.Shelf.LaysM
import Derived.Shelf.Strconv.Itoa2
import Derived.Shelf.Strconv.Itoa3
import Derived.Shelf.Strings.Search1
import Derived.Ground.SlgnProg
import Derived.Shelf.SlicesE.Clone
import Derived.Lib.ItoaNum
import Derived.Lib.ItoaMem
import Derived.Lib.SmallJoins
import Derived.Lib.AppendIntMem
import Derived.Deep.DrawnRows
namespace Go.Proofs.YtpdnabhpkdchjaaDoor.P
open Go.RowKit Go.Proofs.YtpdnabhpkdchjaaDoorW.PrintWords Go.Proofs.YtpdnabhpkdchjaaDoorW.PrintLast
set_option linter.unusedVariables false
set_option linter.unusedSimpArgs false
def marks {α : Type} (f : Int → α) (c : Int) (a : Int) (n : Nat) : List α := (List.range n).map fun j => f (a + c * (j : Nat))
theorem marks_length {α : Type} (f : Int → α) (c a : Int) (n : Nat) : (marks f c a n).length = n := by simp [marks]
theorem marks_get {α : Type} (f : Int → α) (c a : Int) (n : Nat) (i : Nat) (h : i < n) : (marks f c a n)[i]'(by rw [marks_length]; exact h) = f (a + c * (i : Nat)) := by simp [marks]
theorem set_mid {α : Type} {m l : List α} {i : Nat} (h : i < l.length) (hm : m.length = l.length) {v : α} (hv : m[i]'(by omega) = v) : (m.take i ++ l.drop i).set i v = m.take (i + 1) ++ l.drop (i + 1) := by
  subst hv
  rw [List.set_append_right _ _ (by simp; omega)]
  simp only [List.length_take, hm, Nat.min_eq_left (Nat.le_of_lt h), Nat.sub_self]
  rw [List.drop_eq_getElem_cons h, List.set_cons_zero, List.take_succ_eq_append_getElem (by omega), List.append_assoc]
  rfl
theorem mid_length {α : Type} {m l : List α} {i : Nat} (h : i ≤ l.length) (hm : m.length = l.length) : (m.take i ++ l.drop i).length = l.length := by simp; omega
def mkC (k : Int) : S98 := ⟨k, k + 1⟩
theorem markCounterS_l0 (l : List S98) (a : Int) (ha : 0 ≤ a) (hl : a + 2 * l.length ≤ 4611686018427387903) (d : Nat) : ∀ (i : Nat), i + d = l.length →
    Ev (fun k => laws_markCounterS.l0 k ((marks mkC 2 a l.length).take i ++ l.drop i) (a + 2 * i) i) (a + 2 * l.length, marks mkC 2 a l.length) := by
  have hm : (marks mkC 2 a l.length).length = l.length := marks_length _ _ _ _
  induction d with
  | zero =>
    intro i hi
    refine Ev.step1 fun k => ?_
    simp only [laws_markCounterS.l0]
    rw [mid_length (by omega) hm, if_neg (by omega), List.take_of_length_le (by omega), List.drop_eq_nil_of_le (by omega), List.append_nil, show i = l.length by omega]
  | succ d ih =>
    intro i hi
    refine Ev.step (fun k => ?_) (ih (i + 1) (by omega))
    have hlen := mid_length (m := marks mkC 2 a l.length) (l := l) (i := i) (by omega) hm
    simp only [laws_markCounterS.l0, Option.bind_some]
    rw [hlen, if_pos (by omega), if_pos (by omega), wrap_succ (by omega), wrap_id (x := a + 2 * (i : Int) + 1) (by omega) (by omega), wrap_id (by omega) (by omega)]
    simp only [Int.toNat_natCast, rd_T98, List.set_set]
    rw [List.getD_eq_getElem?_getD, List.getElem?_set_self (by omega), Option.getD_some,
      set_mid (by omega) hm (v := ⟨a + 2 * i, a + 2 * i + 1⟩) (by rw [marks_get _ _ _ _ _ (by omega)]; rfl), show a + 2 * (i : Int) + 1 + 1 = a + 2 * ((i + 1 : Nat) : Int) by omega]
theorem markLayout_ev (n : Int) (l : List S98) (a : Int) (ha : 0 ≤ a) (hl : a + 2 * l.length ≤ 4611686018427387903) : Ev (fun k => laws_markLayout.f k n l a) (a + 2 * l.length, marks mkC 2 a l.length) := by
  unfold laws_markLayout.f
  refine Ev.bind (a := (a + 2 * (l.length : Int), marks mkC 2 a l.length)) ?_ (Ev.now _)
  unfold laws_markCounterS.f
  simpa using markCounterS_l0 l a ha hl l.length 0 (by omega)
def mkE (k : Int) : S52 := ⟨k, k + 1, k + 2⟩
theorem markEventS_l0 (l : List S52) (a : Int) (ha : 0 ≤ a) (hl : a + 3 * l.length ≤ 4611686018427387903) (d : Nat) : ∀ (i : Nat), i + d = l.length →
    Ev (fun k => laws_markEventS.l0 k ((marks mkE 3 a l.length).take i ++ l.drop i) (a + 3 * i) i) (a + 3 * l.length, marks mkE 3 a l.length) := by
  have hm : (marks mkE 3 a l.length).length = l.length := marks_length _ _ _ _
  induction d with
  | zero =>
    intro i hi
    refine Ev.step1 fun k => ?_
    simp only [laws_markEventS.l0]
    rw [mid_length (by omega) hm, if_neg (by omega), List.take_of_length_le (by omega), List.drop_eq_nil_of_le (by omega), List.append_nil, show i = l.length by omega]
  | succ d ih =>
    intro i hi
    refine Ev.step (fun k => ?_) (ih (i + 1) (by omega))
    have hlen := mid_length (m := marks mkE 3 a l.length) (l := l) (i := i) (by omega) hm
    simp only [laws_markEventS.l0, Option.bind_some]
    rw [hlen, if_pos (by omega), if_pos (by omega), wrap_succ (by omega), wrap_id (x := a + 3 * (i : Int) + 1) (by omega) (by omega), wrap_id (x := a + 3 * (i : Int) + 1 + 1) (by omega) (by omega), wrap_id (by omega) (by omega)]
    simp only [Int.toNat_natCast, rd_T52, List.set_set]
    rw [List.getD_eq_getElem?_getD, List.getElem?_set_self (by omega), List.getD_eq_getElem?_getD, List.getElem?_set_self (by omega)]
    simp only [Option.getD_some]
    rw [set_mid (by omega) hm (v := ⟨a + 3 * i, a + 3 * i + 1, a + 3 * i + 1 + 1⟩) (by rw [marks_get _ _ _ _ _ (by omega)]; unfold mkE; congr 1; omega), show a + 3 * (i : Int) + 1 + 1 + 1 = a + 3 * ((i + 1 : Nat) : Int) by omega]
theorem markEventS_ev (l : List S52) (a : Int) (ha : 0 ≤ a) (hl : a + 3 * l.length ≤ 4611686018427387903) : Ev (fun k => laws_markEventS.f k l a) (a + 3 * l.length, marks mkE 3 a l.length) := by
  unfold laws_markEventS.f
  simpa using markEventS_l0 l a ha hl l.length 0 (by omega)
theorem heldEventS_l0 (n : Nat) (a : Int) (ha : 0 ≤ a) (hl : a + 3 * n ≤ 4611686018427387903) (d : Nat) : ∀ (i : Nat), i + d = n → Ev (fun k => laws_heldEventS.l0 k (marks mkE 3 a n) (a + 3 * i) i) (a + 3 * n) := by
  have hm : (marks mkE 3 a n).length = n := marks_length _ _ _ _
  induction d with
  | zero =>
    intro i hi
    refine Ev.step1 fun k => ?_
    simp only [laws_heldEventS.l0]
    rw [hm, if_neg (by omega), show i = n by omega]
  | succ d ih =>
    intro i hi
    have hr : rd_T52 (marks mkE 3 a n) (i : Int) = mkE (a + 3 * i) := by
      have := marks_get mkE 3 a n i (by omega)
      simp [rd_T52, List.getD_eq_getElem?_getD, List.getElem?_eq_getElem (show i < (marks mkE 3 a n).length by omega), this]
    refine Ev.step (fun k => ?_) (ih (i + 1) (by omega))
    simp only [laws_heldEventS.l0]
    rw [hm, if_pos (by omega), if_pos (by omega), hr, wrap_id (x := a + 3 * (i : Int) + 1) (by omega) (by omega), wrap_id (x := a + 3 * (i : Int) + 1 + 1) (by omega) (by omega), wrap_id (x := a + 3 * (i : Int) + 1 + 1 + 1) (by omega) (by omega), wrap_succ (by omega)]
    rw [if_pos (show (mkE (a + 3 * i)).f0 = a + 3 * i from rfl), if_pos (show (mkE (a + 3 * i)).f1 = a + 3 * i + 1 from rfl), if_pos (show (mkE (a + 3 * i)).f2 = a + 3 * i + 1 + 1 by show a + 3 * (i : Int) + 2 = _; omega), show a + 3 * (i : Int) + 1 + 1 + 1 = a + 3 * ((i + 1 : Nat) : Int) by omega]
theorem heldEventS_ev (n : Nat) (a : Int) (ha : 0 ≤ a) (hl : a + 3 * n ≤ 4611686018427387903) : Ev (fun k => laws_heldEventS.f k (marks mkE 3 a n) a) (a + 3 * n) := by
  unfold laws_heldEventS.f
  simpa using heldEventS_l0 n a ha hl n 0 (by omega)
theorem eqHeard_ev (c d : Int) (l : List S52) (hl : l.length ≤ 1048576) : Ev (fun k => laws_eqHeard.f k c d l c d l) true := by
  unfold laws_eqHeard.f
  exact Ev.ite_pos rfl (Ev.ite_pos rfl (Ev.bind (eqEventS_ev l hl) (Ev.ite_pos rfl (Ev.now _))))
theorem markHeard_ev (c d : Int) (l : List S52) (a : Int) (ha : 0 ≤ a) (hl : a + 3 * l.length ≤ 4611686018427387903) : Ev (fun k => laws_markHeard.f k c d l a) (a + 3 * l.length, marks mkE 3 a l.length) := by
  unfold laws_markHeard.f
  exact Ev.bind (markEventS_ev l a ha hl) (Ev.now _)
theorem heldHeard_ev (c d : Int) (n : Nat) (a : Int) (ha : 0 ≤ a) (hl : a + 3 * n ≤ 4611686018427387903) : Ev (fun k => laws_heldHeard.f k c d (marks mkE 3 a n) a) (a + 3 * n) := by
  unfold laws_heldHeard.f
  exact Ev.bind (heldEventS_ev n a ha hl) (Ev.ite_neg (by omega) (Ev.now _))
end Go.Proofs.YtpdnabhpkdchjaaDoor.P
namespace Go.Proofs
open Go.Shelf
def Tryd.lays137_ren : Go.Shelf.Ren := ⟨fun | 137 => 40 | 217 => 57 | 266 => 68 | n => n, fun | 9 => 9 | 5 => 5 | 3 => 3 | n => n, fun | n => n⟩
theorem Tryd.lays137 : Go.Proofs.Lays.n137 Tryd.prog Tryd.lays137_ren := {
  mixed := by kernel_rfl
  f137 := Tryd.func40.trans (congrArg some (by kernel_rfl))
  f217 := Tryd.func57.trans (congrArg some (by kernel_rfl))
  f266 := Tryd.func68.trans (congrArg some (by kernel_rfl))
  t3 := Tryd.underlying3
  a3 := Tryd.isAgg3
  z3 := Tryd.sizeOf3
  v3 := Tryd.zeroValue3
  t5 := Tryd.underlying5
  a5 := Tryd.isAgg5
  z5 := Tryd.sizeOf5
  v5 := Tryd.zeroValue5
  t9 := Tryd.underlying9
  a9 := Tryd.isAgg9
  z9 := Tryd.sizeOf9
  v9 := Tryd.zeroValue9 }
open Go.RowKit in
theorem Tryd.strings_IndexByte (s : ByteArray) (c : Int) (w : World) :
    Calls Tryd.prog 40 #[.string s, .int .u8 c] w fun e w' => e = .returned (.int .i64 (Lib.indexByte s.data.toList c.toNat.toUInt8)) ∧ w' = w := Any.strings_IndexByte Tryd.lays137 s c w
def Tryd.laysM171_ren : Go.Shelf.Ren := ⟨fun | 171 => 46 | 243 => 61 | 246 => 73 | 283 => 80 | 284 => 81 | 285 => 82 | 286 => 83 | 129 => 85 | 317 => 84 | 318 => 86 | 319 => 87 | 320 => 88 | 337 => 89 | 338 => 90 | n => n, fun | 3 => 3 | 9 => 9 | 2 => 2 | 4 => 4 | 171 => 125 | 0 => 0 | 53 => 90 | 37 => 46 | 5 => 5 | 173 => 128 | 212 => 132 | 51 => 133 | 20 => 20 | 213 => 134 | 46 => 130 | 232 => 137 | 233 => 138 | n => n, fun | 17 => 2 | 18 => 3 | 19 => 4 | n => n⟩
theorem Tryd.laysM171 : Go.Proofs.LaysM.n171 Tryd.prog Tryd.laysM171_ren := {
  mixed := by kernel_rfl
  f129 := Tryd.func85.trans (congrArg some (by kernel_rfl))
  f171 := Tryd.func46.trans (congrArg some (by kernel_rfl))
  f243 := Tryd.func61.trans (congrArg some (by kernel_rfl))
  f246 := Tryd.func73.trans (congrArg some (by kernel_rfl))
  f283 := Tryd.func80.trans (congrArg some (by kernel_rfl))
  f284 := Tryd.func81.trans (congrArg some (by kernel_rfl))
  f285 := Tryd.func82.trans (congrArg some (by kernel_rfl))
  f286 := Tryd.func83.trans (congrArg some (by kernel_rfl))
  f317 := Tryd.func84.trans (congrArg some (by kernel_rfl))
  f318 := Tryd.func86.trans (congrArg some (by kernel_rfl))
  f319 := Tryd.func87.trans (congrArg some (by kernel_rfl))
  f320 := Tryd.func88.trans (congrArg some (by kernel_rfl))
  f337 := Tryd.func89.trans (congrArg some (by kernel_rfl))
  f338 := Tryd.func90.trans (congrArg some (by kernel_rfl))
  t0 := Tryd.underlying0
  a0 := Tryd.isAgg0
  z0 := Tryd.sizeOf0
  v0 := Tryd.zeroValue0
  t2 := Tryd.underlying2
  a2 := Tryd.isAgg2
  z2 := Tryd.sizeOf2
  v2 := Tryd.zeroValue2
  t3 := Tryd.underlying3
  a3 := Tryd.isAgg3
  z3 := Tryd.sizeOf3
  v3 := Tryd.zeroValue3
  t4 := Tryd.underlying4
  a4 := Tryd.isAgg4
  z4 := Tryd.sizeOf4
  v4 := Tryd.zeroValue4
  t5 := Tryd.underlying5
  a5 := Tryd.isAgg5
  z5 := Tryd.sizeOf5
  v5 := Tryd.zeroValue5
  t9 := Tryd.underlying9
  a9 := Tryd.isAgg9
  z9 := Tryd.sizeOf9
  v9 := Tryd.zeroValue9
  t20 := Tryd.underlying20
  a20 := Tryd.isAgg20
  z20 := Tryd.sizeOf20
  v20 := Tryd.zeroValue20
  t37 := Tryd.underlying46
  a37 := Tryd.isAgg46
  z37 := Tryd.sizeOf46
  v37 := Tryd.zeroValue46
  t46 := Tryd.underlying130
  a46 := Tryd.isAgg130
  z46 := Tryd.sizeOf130
  v46 := Tryd.zeroValue130
  t51 := Tryd.underlying133
  a51 := Tryd.isAgg133
  z51 := Tryd.sizeOf133
  v51 := Tryd.zeroValue133
  t53 := Tryd.underlying90
  a53 := Tryd.isAgg90
  z53 := Tryd.sizeOf90
  v53 := Tryd.zeroValue90
  t171 := Tryd.underlying125
  a171 := Tryd.isAgg125
  z171 := Tryd.sizeOf125
  v171 := Tryd.zeroValue125
  t173 := Tryd.underlying128
  a173 := Tryd.isAgg128
  z173 := Tryd.sizeOf128
  v173 := Tryd.zeroValue128
  t212 := Tryd.underlying132
  a212 := Tryd.isAgg132
  z212 := Tryd.sizeOf132
  v212 := Tryd.zeroValue132
  t213 := Tryd.underlying134
  a213 := Tryd.isAgg134
  z213 := Tryd.sizeOf134
  t232 := Tryd.underlying137
  a232 := Tryd.isAgg137
  z232 := Tryd.sizeOf137
  v232 := Tryd.zeroValue137
  t233 := Tryd.underlying138
  a233 := Tryd.isAgg138
  z233 := Tryd.sizeOf138
  v233 := Tryd.zeroValue138
  g17 := by kernel_rfl
  g18 := by kernel_rfl
  g19 := by kernel_rfl
  i0 := by kernel_rfl
  i2 := by kernel_rfl
  i3 := by kernel_rfl
  i4 := by kernel_rfl
  i5 := by kernel_rfl
  i9 := by kernel_rfl
  i20 := by kernel_rfl
  i37 := by kernel_rfl
  i46 := by kernel_rfl
  i51 := by kernel_rfl
  i53 := by kernel_rfl
  i171 := by kernel_rfl
  i173 := by kernel_rfl
  i212 := by kernel_rfl
  i232 := by kernel_rfl
  i233 := by kernel_rfl
  m17 := by kernel_rfl
  m18 := by kernel_rfl
  m19 := by kernel_rfl }
open Go.RowKit Go.Sort Go.Lib in
theorem Tryd.strconv_Itoa (n : Int) (h0 : -9223372036854775808 ≤ n) (h1 : n ≤ 9223372036854775807) (w : World) (htab : Lib.TabIs Tryd.prog w "internal/strconv.uint64pow10" .u64 Lib.pow10Tab) :
    Calls Tryd.prog 46 #[.int .i64 n] w fun e w' => e = .returned (.string ⟨(Lib.itoa n).toArray⟩) ∧ ∃ k os, w' = grow (w.drewN k) os := Any.strconv_Itoa Tryd.laysM171 n h0 h1 w htab
end Go.Proofs
namespace Go.Proofs.YtpdnabhpkdchjaaDoor.P
open Go Go.RowKit Go.Proofs.YtpdnabhpkdchjaaDoorW.PrintWords Go.Proofs.YtpdnabhpkdchjaaDoorW.PrintLast Go.Proofs.YtpdnabhpkdchjaaDoorW.PrintMore
set_option linter.unusedVariables false
def upto (n k : Nat) : Array Bool := (List.replicate k true ++ List.replicate (n - k) false).toArray
section
variable {P : Program} {md : Region.Mode} {ops : Array Oper} {T : Bool × List (List Nat × List Nat)} {B : List Nat} {Q : Exit → Act → World → Prop} {S : World → Prop} {ds : List Nat} {n k fuel : Nat} {N : Option Tmp} {oi : Oper} {v : Value} {a a' : Act} {w : World} {op : Op} {ty : TypeId} {pos : String} {af : Array Edge} {gu : Option (Nat × Bool)}
theorem wanted_none (hg : oi.guard = none) (y : Nat → Option Bool) : Region.wanted oi y = true := by unfold Region.wanted; rw [hg]
theorem upto_zero (n : Nat) : Array.replicate n false = upto n 0 := by simp [upto]
theorem startK {id : Nat} (n : Nat) (hm : P.follows .mixedOrders = true) (hn : ops.size = n) (hS : S w.drew) (h : S w.drew → wpAnyLast P .any ops Q S ds n (upto n 0) a w.drew) : (Code.region id ops true).wp P Q a w := start_ (upto n 0) hm hn (upto_zero n) hS h
theorem take0 {k' : Nat} (hk : k + 1 = k') (hi : ops[k]? = some ⟨N, op, ty, pos, af, none⟩) (hT : rtab md ops = T) (hB : waitsOk T.2 B = true) (hc : takeW T B ds (upto n k).toList (upto n k').toList k = true) (hQ : ∀ c a w, Q (.panic c) (a.put N v) w → Q (.panic c) a w) (hS : S w) (hy : ∀ w, S w → (execOp a.eval ⟨N, op, ty, pos, af, none⟩).run P w = .ok (.value v) w) (ha : a.put N v = a') (h : wpAnyLast P md ops Q S ds fuel (upto n k') a' w) : wpAnyLast P md ops Q S ds (fuel + 1) (upto n k) a w :=
  take_ (upto n k') hi rfl (take_ofW hT hB hc) hQ (Or.inl ⟨wanted_none rfl _, hy⟩) hS ha h
theorem oneK {k' : Nat} (hk : k + 1 = k') (hi : ops[k]? = some ⟨N, op, ty, pos, af, gu⟩) (hT : rtab md ops = T) (hc : (readyT T.2 (upto n k).toList == [k] && (upto n k).toList.set k true == (upto n k').toList) = true) (hd : k ∉ ds)
    (h : ∀ K : Act → World → Prop, Shut (∀ a' w', S w' → (S w' → wpAnyLast P md ops Q S ds fuel (upto n k') a' w') → K a' w') → if Region.wanted ⟨N, op, ty, pos, af, gu⟩ (yielded ops a.tmps) = true then Oper.wp P ⟨N, op, ty, pos, af, gu⟩ a w K Q else K (a.put N undef) w) : wpAnyLast P md ops Q S ds (fuel + 1) (upto n k) a w :=
  one_ (upto n k') hi rfl (one_of hT hc) hd h
end
end Go.Proofs.YtpdnabhpkdchjaaDoor.P
namespace Go.Proofs.YtpdnabhpkdchjaaDoor.P
open Go.RowKit Go.Proofs.YtpdnabhpkdchjaaDoorW.PrintWords Go.Proofs.YtpdnabhpkdchjaaDoorW.PrintLast Go.Proofs.YtpdnabhpkdchjaaDoorW.PrintMore
attribute [local go_sem] max2_int min2_int max_two min_two max_three min_three max_four min_four
set_option linter.unusedVariables false
set_option linter.unusedSimpArgs false
mutual
def dec4.l0 : Nat → Int → Bool → ByteArray → Option (ByteArray)
  | 0, _, _, _ => none
  | k + 1, x0, x3, x4 => if x0 > 0 then ((some (([(wrap64 (48 + (Int.tmod x0 10))) % 256] : List Int) : List Int)).bind fun y115 => (if (strOfNums y115).size + x4.size ≤ 9223372036854775807 then (dec4.l0 k (wrap64 (Int.tdiv x0 10)) x3 ((strOfNums y115) ++ x4)) else (none))) else (if x3 = true then (if 1 + x4.size ≤ 9223372036854775807 then (some ((⟨#[45]⟩ : ByteArray) ++ x4)) else (none)) else (some x4))
end
set_option maxHeartbeats 8000000 in
set_option maxRecDepth 100000 in
theorem dec4.calls (k : Nat) (a0 : Int) (h0 : 0 < a0) (r : ByteArray) (w : World) (h : dec4.l0 k a0 false ⟨#[]⟩ = some r) :
    Calls Tryd.prog 44 #[.int .i64 a0] w fun e w' => e = .returned (.string r) ∧ Below w.heap.size w w' := by
  have HB := Aside0.mk (Below.refl w.heap.size w)
  have c2b0 : (a0 == 0) = false := beq_false_of_ne (by omega)
  have c4b0 : decide (a0 < 0) = false := decide_eq_false (by omega)
  have H' := Aside0.mk h
  clear h h0
  go_enter Tryd.func44, Tryd.ntmps44
  go_wp2
  clear c2b0 c4b0
  go_loopg [0, 4] k (fun kq v0 v4 w' => ∃ (x0_2 : Int) (x4_2 : ByteArray), v0 = .int .i64 x0_2 ∧ v4 = .string x4_2 ∧ Aside0 (dec4.l0 kq x0_2 false x4_2 = some r) ∧ Aside0 (kq ≤ k) ∧ Aside0 (Below w.heap.size w w'))
  case atStart => exact ⟨a0, (⟨#[]⟩ : ByteArray), rfl, rfl, H', ⟨Nat.le_refl _⟩, HB⟩
  case round =>
    clear H'
    obtain ⟨x0_2, x4_2, rfl, rfl, HA, HK2, HB⟩ := hrel
    cases gk with
    | zero => exact absurd HA.out (by simp [dec4.l0])
    | succ k2 =>
      have H := HA.out
      clear HA
      simp only [dec4.l0] at H
      by_cases c5 : x0_2 > 0
      · rw [if_pos c5] at H
        have c5b0 : decide (0 < x0_2) = true := decide_eq_true c5
        clear c5
        obtain ⟨y115, hy115⟩ : ∃ y_ : List Int, y_ = (([(wrap64 (48 + (Int.tmod x0_2 10))) % 256] : List Int)) := ⟨_, rfl⟩
        replace H : (if (strOfNums y115).size + x4_2.size ≤ 9223372036854775807 then (dec4.l0 k2 (wrap64 (Int.tdiv x0_2 10)) false ((strOfNums y115) ++ x4_2)) else (none)) = some r := by first | (rw [hy115]; with_reducible exact H) | (have H2_ := (Option.bind_some _ _).symm.trans H; rw [hy115]; with_reducible exact H2_) | (have H2_ := (Option.bind_some _ _).symm.trans H; with_reducible exact H2_) | with_reducible exact H | (rw [hy115]; exact H) | exact H
        have Ny115 := Aside0.mk hy115
        clear hy115
        by_cases c6 : (strOfNums y115).size + x4_2.size ≤ 9223372036854775807
        · rw [if_pos c6] at H
          have c6b0 := eq_true c6
          have c6b1 : decide ((strOfNums y115).size + x4_2.size ≤ 9223372036854775807) = true := decide_eq_true c6
          try have c6b2 : (9223372036854775807 < (strOfNums y115).size + x4_2.size) = False := eq_false (Nat.not_lt.2 c6)
          have H' := Aside0.mk H
          clear H
          go_wp2_with (first | ((with_reducible refine gate_dst (N := 18) rfl ?_); refine Kd.R_lit (Kd.int .u8) _ 5 ?hg (N := 18) ?hd (xs := ([(wrap64 (48 + (Int.tmod x0_2 10))) % 256] : List Int)) (inner := [.int .u8 ((wrap64 (48 + (Int.tmod x0_2 10))) % 256)]) (ok := fun _ => True) (okp := fun _ => True) ?hr ?hp (fun _ hk => hk) trivial (Below.refl _ _) (Nat.le_refl _) (by simp) ?_; (case hd => rfl); (case hg => rfl); (case hr => first | (go_simp; done) | (go_simp; rfl)); (case hp => exact (Reps.one (show Kd.M (Kd.int .u8) _ _ _ ((wrap64 (48 + (Int.tmod x0_2 10))) % 256) [.int .u8 ((wrap64 (48 + (Int.tmod x0_2 10))) % 256)] from rfl) (Reps.none _ _))); intro v116 w7 ho8 hb hg_ hnew_; clear hg_ hnew_; (first | rw [← Ny115.out] at ho8 | (simp only [Int.reduceToNat] at ho8; rw [← Ny115.out] at ho8)); have n0_ := Aside0.mk (Kd.R_lower ho8 (below_size (by repeat (first | (with_reducible first | exact HB.out | apply below_alloc | apply pw_below_drewN | apply below_drew1) | exact HB.out)))); have n1_ := Aside0.mk (below_step (by repeat (first | (with_reducible first | exact HB.out | apply below_alloc | apply pw_below_drewN | apply below_drew1) | exact HB.out)) hb); clear HB; have HO117 := n0_; have HB := n1_; clear n0_ n1_; clear hb ho8; have hcv9 := own_string (P := Tryd.prog) Tryd.underlying46 Tryd.underlying5 Tryd.underlying9 (Kd.own_of_R HO117.out)))
          go_roundg k2
          case measure => have := HK2.out; omega
          case rel => exact ⟨(wrap64 (Int.tdiv x0_2 10)), ((strOfNums y115) ++ x4_2), (by first | rfl | (simp; done) | (simp [*]; done)), (by first | rfl | (simp; done) | (simp [*]; done)), H', ⟨by have := HK2.out; omega⟩, ⟨by repeat (first | (with_reducible first | exact HB.out | apply below_alloc | apply pw_below_drewN | apply below_drew1) | exact HB.out)⟩⟩
        · rw [if_neg c6] at H
          exact absurd H (by simp)
      · rw [if_neg c5] at H
        have c5b0 : decide (0 < x0_2) = false := decide_eq_false c5
        clear c5
        rw [if_neg (by decide)] at H
        obtain rfl := Option.some.inj H
        go_wp2
        go_ret
        exact ⟨rfl, HB.out⟩
theorem bytes_app (a b : List UInt8) : (⟨a.toArray⟩ : ByteArray) ++ ⟨b.toArray⟩ = ⟨(a ++ b).toArray⟩ := by
  apply ByteArray.ext
  simp [ByteArray.data_append]
theorem one_num (m : Nat) : strOfNums ([(wrap64 (48 + (Int.tmod (m : Int) 10))) % 256] : List Int) = (⟨[UInt8.ofNat (48 + m % 10)].toArray⟩ : ByteArray) := by
  have h : Int.tmod (m : Int) 10 = ((m % 10 : Nat) : Int) := by rw [Int.tmod_eq_emod_of_nonneg (by omega)]; omega
  have h2 : wrap64 (48 + ((m % 10 : Nat) : Int)) % 256 = ((48 + m % 10 : Nat) : Int) := by rw [wrap_id (by omega) (by omega)]; omega
  rw [h, h2]
  rfl
theorem dec4_l0 (m : Nat) : ∀ acc : List UInt8, m ≤ 1000000000 → acc.length + m ≤ 2000000000 → Ev (fun k => dec4.l0 k (m : Int) false ⟨acc.toArray⟩) ⟨((if m = 0 then [] else Go.Lib.decDigits m) ++ acc).toArray⟩ := by
  induction m using Nat.strongRecOn with
  | ind m ih =>
    intro acc hm hl
    by_cases h0 : m = 0
    · subst h0
      refine Ev.step1 fun k => ?_
      simp [dec4.l0]
    · have hq : wrap64 (Int.tdiv (m : Int) 10) = ((m / 10 : Nat) : Int) := by
        rw [show Int.tdiv (m : Int) 10 = ((m / 10 : Nat) : Int) from by rw [Int.tdiv_eq_ediv_of_nonneg (by omega)]; omega, wrap_id (by omega) (by omega)]
      have hsz : (⟨[UInt8.ofNat (48 + m % 10)].toArray⟩ : ByteArray).size + (⟨acc.toArray⟩ : ByteArray).size ≤ 9223372036854775807 := by
        show 1 + acc.length ≤ _
        omega
      refine Ev.step (fun k => by simp only [dec4.l0, Option.bind_some, one_num, hq, bytes_app]; rw [if_pos (by omega), if_pos hsz]) ?_
      have := ih (m / 10) (by omega) ([UInt8.ofNat (48 + m % 10)] ++ acc) (by omega) (by simp; omega)
      rw [if_neg h0]
      rw [show Go.Lib.decDigits m ++ acc = (if m / 10 = 0 then [] else Go.Lib.decDigits (m / 10)) ++ ([UInt8.ofNat (48 + m % 10)] ++ acc) from by
        conv => lhs; rw [Go.Lib.decDigits]
        by_cases h10 : m < 10
        · rw [dif_pos h10, if_pos (by omega), show m % 10 = m by omega]; rfl
        · rw [dif_neg h10, if_neg (by omega), List.append_assoc]]
      exact this
def spec_l4decimal.f (a0 : Int) : Option ByteArray := if 0 ≤ a0 ∧ a0 ≤ 1000000000 then some ⟨(Go.Lib.decDigits a0.toNat).toArray⟩ else none
theorem spec_l4decimal.calls (a0 : Int) (r : ByteArray) (w : World) (h : spec_l4decimal.f a0 = some r) :
    Calls Tryd.prog 44 #[.int .i64 a0] w fun e w' => e = .returned (.string r) ∧ Below w.heap.size w w' := by
  unfold spec_l4decimal.f at h
  split at h
  · rename_i hh
    obtain ⟨m, rfl⟩ := Int.eq_ofNat_of_zero_le hh.1
    obtain rfl := Option.some.inj h
    by_cases h0 : m = 0
    · subst h0
      rw [show (⟨(Go.Lib.decDigits (((0 : Nat) : Int)).toNat).toArray⟩ : ByteArray) = ⟨#[48]⟩ by rw [show (((0 : Nat) : Int)).toNat = 0 from rfl, Go.Lib.decDigits]; rfl]
      go_enter Tryd.func44, Tryd.ntmps44
      go_wp2
      go_ret
      exact ⟨rfl, Below.refl _ _⟩
    · have hz := dec4_l0 m [] (by omega) (by simp; omega)
      rw [if_neg h0, List.append_nil] at hz
      obtain ⟨k, hk⟩ := hz.rounds
      exact dec4.calls k _ (by omega) _ w hk
  · cases h
end Go.Proofs.YtpdnabhpkdchjaaDoor.P
namespace Go.Proofs.YtpdnabhpkdchjaaDoor.P
open Go Go.RowKit Go.Proofs.YtpdnabhpkdchjaaDoorW.PrintWords Go.Proofs.YtpdnabhpkdchjaaDoorW.PrintLast Go.Proofs.YtpdnabhpkdchjaaDoorW.PrintMore
set_option linter.unusedVariables false
set_option linter.unusedSimpArgs false
def wordL : List (List UInt8) := [[], [112, 97, 115, 115], [103, 104, 111, 115, 116], [100, 101, 97, 100], [97, 108, 105, 118, 101], [114, 101, 115, 101, 116]]
def wordB (i : Nat) : List UInt8 := wordL.getD i []
structure Tabs (A : Addr) (c : Nat) (w : World) : Prop where
  names : w.cell? ⟨0, 0, none⟩ = some (.slice (some A) 6 c)
  words : ∀ i : Nat, i < 6 → w.cell? (A.add i) = some (.string ⟨(wordB i).toArray⟩)
  tab : Lib.TabIs Tryd.prog w "internal/strconv.uint64pow10" .u64 Lib.pow10Tab
theorem Tabs.nx {A : Addr} {c : Nat} {w w' : World} (h : Tabs A c w) (hb : Below w.heap.size w w') : Tabs A c w' :=
  ⟨pw_cell_below hb h.names, fun i hi => pw_cell_below hb (h.words i hi), Joins.tab_stays (g := 2) (by kernel_rfl) h.tab hb (Nat.le_refl _)⟩
def dirB (dir : Int) : List UInt8 := if dir = 1 then [32, 43] else if dir = -1 then [32, 45] else []
def lineB (op of dir : Int) : List UInt8 := (wordB op.toNat ++ [32] ++ Lib.decDigits of.toNat ++ dirB dir) ++ [10]
theorem word_len (i : Nat) : (wordB i).length ≤ 5 := by
  unfold wordB wordL
  match i with
  | 0 => decide
  | 1 => decide
  | 2 => decide
  | 3 => decide
  | 4 => decide
  | 5 => decide
  | n + 6 => simp
theorem digits_len (n : Nat) : (Lib.decDigits n).length ≤ n + 1 := by
  induction n using Nat.strongRecOn with
  | ind n ih =>
    rw [Lib.decDigits]
    by_cases h : n < 10
    · rw [dif_pos h]; simp
    · rw [dif_neg h, List.length_append]
      have := ih (n / 10) (by omega)
      simp only [List.length_singleton]
      omega
theorem itoa_at {A : Addr} {c : Nat} {n : Int} (h0 : 0 ≤ n) (h1 : n ≤ 1000000000) {w : World} (hT : Tabs A c w) : Calls Tryd.prog 46 #[.int .i64 n] w fun e w' => e = .returned (.string ⟨(Lib.decDigits n.toNat).toArray⟩) ∧ Below w.heap.size w w' := by
  refine (Tryd.strconv_Itoa n (by omega) (by omega) w hT.tab).mono ?_
  rintro e w' ⟨rfl, k, os, rfl⟩
  obtain ⟨m, rfl⟩ := Int.eq_ofNat_of_zero_le h0
  rw [Lib.itoa_nonneg]
  exact ⟨rfl, Lib.below_grow _ _ (Nat.le_refl _) k os⟩
end Go.Proofs.YtpdnabhpkdchjaaDoor.P
namespace Go.Proofs.YtpdnabhpkdchjaaDoor.P
open Go Go.RowKit Go.Proofs.YtpdnabhpkdchjaaDoorW.PrintWords Go.Proofs.YtpdnabhpkdchjaaDoorW.PrintLast Go.Proofs.YtpdnabhpkdchjaaDoorW.PrintMore
set_option linter.unusedVariables false
set_option linter.unusedSimpArgs false
def dl_T1 : Bool × List (List Nat × List Nat) := (true, [([], []), ([], []), ([1], [1]), ([0, 2], [0, 2]), ([3], [3]), ([4], [4]), ([], []), ([6], [6]), ([7], [7]), ([5, 8], [5, 8]), ([9, 8, 0, 1, 2, 3, 4, 5, 6, 7, 8, 9], [9])])
def dl_B1 : List Nat := [0, 0, 2, 7, 15, 31, 0, 64, 192, 511, 1023]
theorem dl_tab1 : rtab .any (opsOf Tryd.f33 1) = dl_T1 := by kernel_rfl
theorem dl_bits1 : waitsOk dl_T1.2 dl_B1 = true := by kernel_rfl
set_option maxHeartbeats 8000000 in
set_option maxRecDepth 100000 in
theorem line_bytes {A : Addr} {c : Nat} (o : Nat) (of dir : Int) (wd dg : ByteArray) (w : World) (ho : o < 6) (hwd : wd.size ≤ 5) (hdg : dg.size ≤ 1000000001) (hw : wd = ⟨(wordB o).toArray⟩) (hd : dg = ⟨(Lib.decDigits of.toNat).toArray⟩) (h0 : 0 ≤ of) (h1 : of ≤ 1000000000) (hT : Tabs A c w) :
    Calls Tryd.prog 33 #[.agg #[.int .i64 (o : Int), .int .i64 of, .int .i64 dir]] w fun e w' => e = .returned (.string ((if dir = 1 then ((wd ++ ⟨#[32]⟩) ++ dg) ++ ⟨#[32, 43]⟩ else if dir = -1 then ((wd ++ ⟨#[32]⟩) ++ dg) ++ ⟨#[32, 45]⟩ else (wd ++ ⟨#[32]⟩) ++ dg) ++ ⟨#[10]⟩)) ∧ Below w.heap.size w w' := by
  have HT := Aside0.mk hT
  have HOF := Aside0.mk (And.intro h0 h1)
  have WD := Aside0.mk hw
  have DG := Aside0.mk hd
  have sa0 : (wd.size + 1 ≤ 9223372036854775807) = True := eq_true (by omega)
  have sa1 : decide (wd.size + 1 ≤ 9223372036854775807) = true := decide_eq_true (by omega)
  have sa2 : (9223372036854775807 < wd.size + 1) = False := eq_false (by omega)
  have sb0 : (wd.size + 1 + dg.size ≤ 9223372036854775807) = True := eq_true (by omega)
  have sb1 : decide (wd.size + 1 + dg.size ≤ 9223372036854775807) = true := decide_eq_true (by omega)
  have sb2 : (9223372036854775807 < wd.size + 1 + dg.size) = False := eq_false (by omega)
  have r0 : (0 : Int) ≤ (o : Int) := by omega
  have r1 : (o : Int) < 6 := by omega
  have HO := Aside0.mk ho
  have SZ := Aside0.mk (And.intro hwd hdg)
  clear hT h0 h1 hw hd hwd hdg ho
  go_enter Tryd.func33, Tryd.ntmps33
  go_upto_region 1 with ((with_reducible refine gate_dst (N := 1) rfl ?_); refine box_event ?hg (N := 1) ?hd (cs := #[.int .i64 (o : Int), .int .i64 of, .int .i64 dir]) (t := 52) ?hr ?_; (case hd => rfl); (case hg => rfl); (case hr => first | (go_simp; done) | (go_simp; rfl)); intro ge ee we ke be; have EE := Aside0.mk ee; have KE := Aside0.mk ke; have BE := Aside0.mk be; clear ee ke be; have ke0 : we.cell? ⟨ge, 0, none⟩ = some (.int .i64 (o : Int)) := (blk_cell KE.out 0).trans rfl; have zke0 := blk_frozen KE.out 0; have ke1 : we.cell? ⟨ge, 1, none⟩ = some (.int .i64 of) := (blk_cell KE.out 1).trans rfl; have zke1 := blk_frozen KE.out 1; have ke2 : we.cell? ⟨ge, 2, none⟩ = some (.int .i64 dir) := (blk_cell KE.out 2).trans rfl; have zke2 := blk_frozen KE.out 2)
  have HT := Aside0.mk (HT.out.nx BE.out)
  clear ke0 zke0 ke1 zke1 ke2 zke2
  go_upto_region 1 with fail
  have HT := Aside0.mk (HT.out.nx (below_drew1 (Below.refl we.heap.size we)))
  have KE := Aside0.mk (blk_below KE.out (below_drew1 (Below.refl we.heap.size we)))
  have BE := Aside0.mk (below_step BE.out (below_drew1 (Below.refl we.heap.size we)))
  refine startK 11 (S := fun w' => w'.cell? ⟨0, 0, none⟩ = some (.slice (some A) 6 c) ∧ w'.cell? (A.add o) = some (.string wd) ∧ w'.cell? ⟨ge, 0, none⟩ = some (.int .i64 (o : Int)) ∧ w'.cell? ⟨ge, 1, none⟩ = some (.int .i64 of) ∧ w'.cell? ⟨ge, 2, none⟩ = some (.int .i64 dir)) (ds := []) (by kernel_rfl) rfl ⟨HT.out.names, by rw [WD.out]; exact HT.out.words o HO.out, (blk_cell KE.out 0).trans rfl, (blk_cell KE.out 1).trans rfl, (blk_cell KE.out 2).trans rfl⟩ (fun hHeld => ?_)
  refine with_tabW dl_tab1 dl_bits1 (fun HT_ HW_ => ?_)
  generalize we.drew = w95 at HT KE BE hHeld ⊢
  repeat (first
    | (refine take0 (v := ?_) (a' := ?_) (by simp only [Nat.reduceAdd]; rfl) (by rfl) HT_.out HW_.out (by kernel_rfl) (by exact fun _ _ _ h => h) hHeld ?_ ?_ ?_; rotate_left 2; (· rintro w' ⟨s0, s1, s2, s3, s4⟩; go_simp; with_reducible rfl); (· simp only [Act.put, List.setIfInBounds_toArray, List.set_cons_zero, List.set_cons_succ, i64_w, i32_w]; rfl))
    | (refine oneK (by simp only [Nat.reduceAdd]; rfl) (by rfl) HT_.out (by kernel_rfl) (by decide) (fun K hK => ?_); refine goes_ Tryd.func46 (by kernel_rfl) rfl #[.int .i64 of] (by rfl) rfl rfl (by (try simp only [List.map_toArray, List.map_cons, List.map_nil]); first | done | rfl) ?_; ((with_reducible refine (itoa_at HOF.out.1 HOF.out.2 HT.out).mono ?_); rintro e w1 ⟨rfl, hb⟩); refine ⟨_, rfl, ?_⟩; rw [← DG.out]; have HT := Aside0.mk (HT.out.nx hb); have KE := Aside0.mk (blk_below KE.out hb); have BE := Aside0.mk (below_step BE.out hb); refine hK.out _ _ ⟨pw_cell_below hb hHeld.1, pw_cell_below hb hHeld.2.1, pw_cell_below hb hHeld.2.2.1, pw_cell_below hb hHeld.2.2.2.1, pw_cell_below hb hHeld.2.2.2.2⟩ (fun hHeld => ?_); clear hb hK K; refine norm_ (a' := ?_) ?_ ?_; rotate_left; · simp only [Act.put, List.setIfInBounds_toArray, List.set_cons_zero, List.set_cons_succ, i64_w, i32_w]; rfl))
  refine done_ (done_of HT_.out (by kernel_rfl)) ?_
  have ke2 := hHeld.2.2.2.2
  clear hHeld HT_ HW_ sa0 sa1 sa2 sb0 sb1 sb2 r0 r1
  obtain ⟨X, hX⟩ : ∃ X, X = (wd ++ (⟨#[32]⟩ : ByteArray)) ++ dg := ⟨_, rfl⟩
  rw [← hX]
  have SX := Aside0.mk (show X.size ≤ 1000000007 by rw [hX, ByteArray.size_append, ByteArray.size_append]; have := SZ.out; show wd.size + 1 + dg.size ≤ _; omega)
  have sc0 : (X.size + 2 ≤ 9223372036854775807) = True := eq_true (by have := SX.out; omega)
  have sc1 : decide (X.size + 2 ≤ 9223372036854775807) = true := decide_eq_true (by have := SX.out; omega)
  have sc2 : (9223372036854775807 < X.size + 2) = False := eq_false (by have := SX.out; omega)
  have sd0 : (X.size + 1 ≤ 9223372036854775807) = True := eq_true (by have := SX.out; omega)
  have sd1 : decide (X.size + 1 ≤ 9223372036854775807) = true := decide_eq_true (by have := SX.out; omega)
  have sd2 : (9223372036854775807 < X.size + 1) = False := eq_false (by have := SX.out; omega)
  have se0 : (X.size + 2 + 1 ≤ 9223372036854775807) = True := eq_true (by have := SX.out; omega)
  have se1 : decide (X.size + 2 + 1 ≤ 9223372036854775807) = true := decide_eq_true (by have := SX.out; omega)
  have se2 : (9223372036854775807 < X.size + 2 + 1) = False := eq_false (by have := SX.out; omega)
  have sf0 : (X.size + 3 ≤ 9223372036854775807) = True := eq_true (by have := SX.out; omega)
  have sf1 : decide (X.size + 3 ≤ 9223372036854775807) = true := decide_eq_true (by have := SX.out; omega)
  have sf2 : (9223372036854775807 < X.size + 3) = False := eq_false (by have := SX.out; omega)
  have HX := Aside0.mk hX
  clear hX
  by_cases d1 : dir = 1
  · subst d1
    go_wp2_with fail
    go_ret
    refine ⟨?_, BE.out⟩
    rw [← HX.out]
    rfl
  · have e1 : (dir == 1) = false := beq_false_of_ne d1
    by_cases d2 : dir = -1
    · subst d2
      go_wp2_with fail
      go_ret
      refine ⟨?_, BE.out⟩
      rw [← HX.out]
      rfl
    · have e2 : (dir == -1) = false := beq_false_of_ne d2
      go_wp2_with fail
      go_ret
      refine ⟨?_, BE.out⟩
      rw [← HX.out]
      first | rfl | (rw [if_neg d1, if_neg d2]; rfl)
theorem line_is {A : Addr} {c : Nat} {op of dir : Int} {w : World} (ho : 0 ≤ op) (ho5 : op ≤ 5) (h0 : 0 ≤ of) (h1 : of ≤ 1000000000) (hT : Tabs A c w) :
    Calls Tryd.prog 33 #[.agg #[.int .i64 op, .int .i64 of, .int .i64 dir]] w fun e w' => e = .returned (.string ⟨(lineB op of dir).toArray⟩) ∧ Below w.heap.size w w' := by
  obtain ⟨o, rfl⟩ := Int.eq_ofNat_of_zero_le ho
  have h2 := digits_len of.toNat
  have h3 := word_len o
  refine (line_bytes o of dir ⟨(wordB o).toArray⟩ ⟨(Lib.decDigits of.toNat).toArray⟩ w (by omega) h3 (show (Lib.decDigits of.toNat).length ≤ _ by omega) rfl rfl h0 h1 hT).mono ?_
  rintro e w' ⟨rfl, hb⟩
  refine ⟨?_, hb⟩
  congr 2
  have e1 : (⟨#[32]⟩ : ByteArray) = ⟨([32] : List UInt8).toArray⟩ := rfl
  have e2 : (⟨#[32, 43]⟩ : ByteArray) = ⟨([32, 43] : List UInt8).toArray⟩ := rfl
  have e3 : (⟨#[32, 45]⟩ : ByteArray) = ⟨([32, 45] : List UInt8).toArray⟩ := rfl
  have e4 : (⟨#[10]⟩ : ByteArray) = ⟨([10] : List UInt8).toArray⟩ := rfl
  rw [e1, e2, e3, e4, lineB, dirB]
  by_cases d1 : dir = 1
  · simp only [if_pos d1, bytes_app]; rfl
  · by_cases d2 : dir = -1
    · simp only [if_neg d1, if_pos d2, bytes_app]; rfl
    · simp only [if_neg d1, if_neg d2, bytes_app, List.append_nil]; rfl
end Go.Proofs.YtpdnabhpkdchjaaDoor.P
namespace Go.Proofs.YtpdnabhpkdchjaaDoor.P
open Go.RowKit Go.Proofs.YtpdnabhpkdchjaaDoorW.PrintWords Go.Proofs.YtpdnabhpkdchjaaDoorW.PrintLast Go.Proofs.YtpdnabhpkdchjaaDoorW.PrintMore
attribute [local go_sem] max2_int min2_int max_two min_two max_three min_three max_four min_four
set_option linter.unusedVariables false
set_option linter.unusedSimpArgs false
mutual
def spec_EventOk.j0:Nat→Int→Bool→Int→List (S98)→Int→Int→Int→Option (Bool)
 | 0,_,_,_,_,_,_,_=>none
 | k+1,x9,x10,x110000,x110001,x111000,x111001,x111002=>if x10=true then ((spec_l1in.f x111001 0 (wrap64 ((x110001.length:Int) - 1))).bind fun t112=>(if t112=true then (if x111002=1 then (some true) else (some (x111002==(-1)))) else (some false))) else (if x9=3 then (spec_EventOk.j1 k x9 (x9==3) x110000 x110001 x111000 x111001 x111002) else (spec_EventOk.j1 k x9 (x9==4) x110000 x110001 x111000 x111001 x111002))
def spec_EventOk.j1:Nat→Int→Bool→Int→List (S98)→Int→Int→Int→Option (Bool)
 | 0,_,_,_,_,_,_,_=>none
 | k+1,x9,x30,x110000,x110001,x111000,x111001,x111002=>if x30=true then ((spec_l1in.f x111001 0 (wrap64 ((x110001.length:Int) - 1))).bind fun t113=>(if t113=true then (some (x111002==0)) else (some false))) else (if x9=5 then ((spec_l1in.f x111001 0 (wrap64 (x110000 - 1))).bind fun t114=>(if t114=true then (some (x111002==0)) else (some false))) else (some false))
end
def spec_EventOk.f (k:Nat) (a0_0:Int) (l0_1:List (S98)) (a1_0:Int) (a1_1:Int) (a1_2:Int):Option (Bool):=(spec_LayoutOk.f k a0_0 l0_1).bind fun t111=>(if t111=0 then (if a1_0=1 then (spec_EventOk.j0 k a1_0 (a1_0==1) a0_0 l0_1 a1_0 a1_1 a1_2) else (spec_EventOk.j0 k a1_0 (a1_0==2) a0_0 l0_1 a1_0 a1_1 a1_2)) else (some false))
set_option maxHeartbeats 8000000 in
set_option maxRecDepth 100000 in
theorem spec_EventOk.calls (k:Nat) (a0_0:Int) (A0_1:Option Addr) (c0_1:Nat) (l0_1:List (S98)) (a1_0:Int) (a1_1:Int) (a1_2:Int) (r:Bool) (w:World) (hr0_1:Kd.C k98 w A0_1 l0_1.length l0_1) (hc0_1:l0_1.length≤c0_1) (h:spec_EventOk.f k a0_0 l0_1 a1_0 a1_1 a1_2=some r) :
  Calls Tryd.prog 26 #[.agg #[.int .i64 a0_0,.slice A0_1 l0_1.length c0_1],.agg #[.int .i64 a1_0,.int .i64 a1_1,.int .i64 a1_2]] w fun e w'=>e=.returned (.bool r)∧Below w.heap.size w w':=by
 have hu31:=Tryd.underlying31
 have hu52:=Tryd.underlying52
 have HR0_1:=Aside0.mk hr0_1
 have HC0_1:=Aside0.mk hc0_1
 clear hr0_1 hc0_1
 have HB:=Aside0.mk (Below.refl w.heap.size w)
 have H:((spec_LayoutOk.f k a0_0 l0_1).bind fun t111=>(if t111=0 then (if a1_0=1 then (spec_EventOk.j0 k a1_0 (a1_0==1) a0_0 l0_1 a1_0 a1_1 a1_2) else (spec_EventOk.j0 k a1_0 (a1_0==2) a0_0 l0_1 a1_0 a1_1 a1_2)) else (some false)))=some r:=h
 clear h
 replace H:=Option.bind_eq_some_iff.mp H
 obtain ⟨t111,A30,H⟩:=H
 replace H:(if t111=0 then (if a1_0=1 then (spec_EventOk.j0 k a1_0 (a1_0==1) a0_0 l0_1 a1_0 a1_1 a1_2) else (spec_EventOk.j0 k a1_0 (a1_0==2) a0_0 l0_1 a1_0 a1_1 a1_2)) else (some false))=some r:=H
 have A3:=Aside0.mk A30
 clear A30
 by_cases c4:t111=0
 ·rw [if_pos c4] at H
  have c4b0:(t111==0)=true:=beq_iff_eq.mpr c4
  have c4b1:(t111 != 0)=false:=bne_eq_false_iff_eq.mpr c4
  clear c4
  have HC5:=Aside0.mk H
  clear H
  go_enter Tryd.func26,Tryd.ntmps26
  go_upto_if 10 with (first|((with_reducible refine gate_dst (N:=2) rfl ?_);refine box_event ?hg (N:=2) ?hd (cs:=#[.int .i64 a0_0,.slice A0_1 l0_1.length c0_1]) (t:=31) ?hr ?_;(case hd=>rfl);(case hg=>rfl);(case hr=>first|(go_simp;done)|(go_simp;rfl));intro gb109 hg w6 hbox hb;have n0_:=Aside0.mk (below_step (by repeat (first|(with_reducible first|exact HB.out|apply below_alloc|apply pw_below_drewN|apply below_drew1)|exact HB.out)) hb);have n1_:=Aside0.mk (hbox);have n2_:=Aside0.mk ((by rw [hg];exact (below_size (by repeat (first|(with_reducible first|exact HB.out|apply below_alloc|apply pw_below_drewN|apply below_drew1)|exact HB.out))):w.heap.size≤gb109));have n3_:=Aside0.mk ((by rw [hg];exact (below_size (by repeat (first|(with_reducible first|exact HB.out|apply below_alloc|apply pw_below_drewN|apply below_drew1)|exact HB.out))):w.heap.size≤gb109));clear HB;have HB:=n0_;have BK109:=n1_;have GW109:=n2_;have GE109:=n3_;clear n0_ n1_ n2_ n3_;clear hb hbox hg)|((with_reducible refine gate_dst (N:=3) rfl ?_);refine box_event ?hg (N:=3) ?hd (cs:=#[.int .i64 a1_0,.int .i64 a1_1,.int .i64 a1_2]) (t:=52) ?hr ?_;(case hd=>rfl);(case hg=>rfl);(case hr=>first|(go_simp;done)|(go_simp;rfl));intro gb110 hg w7 hbox hb;have n0_:=Aside0.mk (blk_below (g:=gb109) (o:=.cells #[.int .i64 a0_0,.slice A0_1 l0_1.length c0_1] 31 (0,0)) (by (with_reducible repeat (first|refine blk_drewN ?_ _|refine blk_drew ?_|refine blk_alloc ?_ _));exact BK109.out) hb);have n1_:=Aside0.mk (below_step (by repeat (first|(with_reducible first|exact HB.out|apply below_alloc|apply pw_below_drewN|apply below_drew1|refine below_set ?_ GE109.out)|exact HB.out)) hb);have n2_:=Aside0.mk (hbox);have n3_:=Aside0.mk ((by rw [hg];exact (below_size (by repeat (first|(with_reducible first|exact HB.out|apply below_alloc|apply pw_below_drewN|apply below_drew1|refine below_set ?_ GE109.out)|exact HB.out))):w.heap.size≤gb110));have n4_:=Aside0.mk ((by rw [hg];exact (below_size (by repeat (first|(with_reducible first|exact HB.out|apply below_alloc|apply pw_below_drewN|apply below_drew1|refine below_set ?_ GE109.out)|exact HB.out))):w.heap.size≤gb110));have n5_:=Aside0.mk ((by rw [hg];exact Nat.ne_of_lt (blk_lt (g:=gb109) (o:=.cells #[.int .i64 a0_0,.slice A0_1 l0_1.length c0_1] 31 (0,0)) (by (with_reducible repeat (first|refine blk_drewN ?_ _|refine blk_drew ?_|refine blk_alloc ?_ _));exact BK109.out)):gb109 ≠ gb110));have n6_:=Aside0.mk ((by rw [hg];exact Nat.ne_of_gt (blk_lt (g:=gb109) (o:=.cells #[.int .i64 a0_0,.slice A0_1 l0_1.length c0_1] 31 (0,0)) (by (with_reducible repeat (first|refine blk_drewN ?_ _|refine blk_drew ?_|refine blk_alloc ?_ _));exact BK109.out)):gb110 ≠ gb109));clear BK109;clear HB;have BK109:=n0_;have HB:=n1_;have BK110:=n2_;have GW110:=n3_;have GE110:=n4_;have NB109_110:=n5_;have NB110_109:=n6_;clear n0_ n1_ n2_ n3_ n4_ n5_ n6_;clear hb hbox hg;have hnb8:=NB109_110.out;have hnc8:=NB110_109.out;have hcz9_0:w7.cell? ⟨gb109,0,none⟩=some (.int .i64 a0_0):=(blk_cell BK109.out 0).trans rfl;have hcz9_1:w7.cell? ⟨gb109,1,none⟩=some (.slice A0_1 l0_1.length c0_1):=(blk_cell BK109.out 1).trans rfl;have hfz9_0:=blk_frozen BK109.out 0;have hfz9_1:=blk_frozen BK109.out 1)|((with_reducible refine gate_callee (f:=38) rfl ?_);refine goesL_ (some 6) rfl rfl Tryd.func38 (by kernel_rfl) rfl #[.agg #[.int .i64 a0_0,.slice A0_1 l0_1.length c0_1]] rfl (by (try simp only [List.map_toArray,List.map_cons,List.map_nil]);first|done|rfl|(simp only [List.length_drop,List.length_take];rfl)) ?_;(with_reducible refine (spec_LayoutOk.calls k a0_0 _ _ l0_1 t111 _ ?side1 ?side2 A3.out).mono ?_);(case side1=>repeat (first|exact (Kd.C_below HR0_1.out HB.out)|(with_reducible refine Kd.C_alloc ?_ _)|(with_reducible refine Kd.C_drewN ?_ _)|(with_reducible refine Kd.C_drew ?_)));(case side2=>exact HC0_1.out);rintro e w10 ⟨rfl,hb⟩;refine ⟨_,rfl,?_⟩;have n0_:=Aside0.mk (blk_below (g:=gb109) (o:=.cells #[.int .i64 a0_0,.slice A0_1 l0_1.length c0_1] 31 (0,0)) (by (with_reducible repeat (first|refine blk_drewN ?_ _|refine blk_drew ?_|refine blk_alloc ?_ _));exact BK109.out) hb);have n1_:=Aside0.mk (blk_below (g:=gb110) (o:=.cells #[.int .i64 a1_0,.int .i64 a1_1,.int .i64 a1_2] 52 (0,0)) (by (with_reducible repeat (first|refine blk_drewN ?_ _|refine blk_drew ?_|refine blk_alloc ?_ _));exact BK110.out) hb);have n2_:=Aside0.mk (below_step (by repeat (first|(with_reducible first|exact HB.out|apply below_alloc|apply pw_below_drewN|apply below_drew1|refine below_set ?_ GE109.out|refine below_set ?_ GE110.out)|exact HB.out)) hb);clear BK109;clear BK110;clear HB;have BK109:=n0_;have BK110:=n1_;have HB:=n2_;clear n0_ n1_ n2_;(try clear hb);(try clear hb2);(try clear hk);(try clear hi);have hcz11_0:w10.cell? ⟨gb110,0,none⟩=some (.int .i64 a1_0):=(blk_cell BK110.out 0).trans rfl;have hcz11_1:w10.cell? ⟨gb110,1,none⟩=some (.int .i64 a1_1):=(blk_cell BK110.out 1).trans rfl;have hcz11_2:w10.cell? ⟨gb110,2,none⟩=some (.int .i64 a1_2):=(blk_cell BK110.out 2).trans rfl;have hfz11_0:=blk_frozen BK110.out 0;have hfz11_1:=blk_frozen BK110.out 1;have hfz11_2:=blk_frozen BK110.out 2))
  (try simp only [Act.put,List.setIfInBounds_toArray,List.set_cons_zero,List.set_cons_succ])
  go_cut [10] (fun v10 wc=>∃ (kq:Nat) (x10_4:Bool),v10=.bool x10_4∧Aside0 (spec_EventOk.j0 kq a1_0 x10_4 a0_0 l0_1 a1_0 a1_1 a1_2=some r)∧Aside0 (kq≤k)∧Aside0 (wc.heap[gb109]?=some (.cells #[.int .i64 a0_0,(.slice A0_1 l0_1.length c0_1)] 31 (0,0)))∧Aside0 (wc.heap[gb110]?=some (.cells #[.int .i64 a1_0,.int .i64 a1_1,.int .i64 a1_2] 52 (0,0)))∧Aside0 (Below w.heap.size w wc))
  case first =>
   have H:=HC5.out
   clear HC5
   by_cases c12:a1_0=1
   ·rw [if_pos c12] at H
    have c12b0:(a1_0==1)=true:=beq_iff_eq.mpr c12
    have c12b1:(a1_0 != 1)=false:=bne_eq_false_iff_eq.mpr c12
    clear c12
    (first|rw [c12b0]|(simp only [i64_w,i32_w];rw [c12b0])|skip)
    have H':=Aside0.mk H
    clear H
    go_wp2
    go_meet
    case rel=>exact ⟨_,((a1_0==1)),(by first|rfl|(simp;done)|(simp [*];done)),H',⟨by first|omega|exact Nat.le_refl _⟩,⟨by (with_reducible repeat (first|refine blk_drewN ?_ _|refine blk_drew ?_|refine blk_alloc ?_ _));exact BK109.out⟩,⟨by (with_reducible repeat (first|refine blk_drewN ?_ _|refine blk_drew ?_|refine blk_alloc ?_ _));exact BK110.out⟩,⟨by repeat (first|(with_reducible first|exact HB.out|apply below_alloc|apply pw_below_drewN|apply below_drew1|refine below_set ?_ GE109.out|refine below_set ?_ GE110.out)|exact HB.out)⟩⟩
   rw [if_neg c12] at H
   have c12b0:(a1_0==1)=false:=beq_eq_false_iff_ne.mpr c12
   have c12b1:(a1_0 != 1)=true:=bne_iff_ne.mpr c12
   (first|rw [c12b0]|(simp only [i64_w,i32_w];rw [c12b0])|skip)
   have H':=Aside0.mk H
   clear H
   go_wp2
   go_meet
   case rel=>exact ⟨_,((a1_0==2)),(by first|rfl|(simp;done)|(simp [*];done)),H',⟨by first|omega|exact Nat.le_refl _⟩,⟨by (with_reducible repeat (first|refine blk_drewN ?_ _|refine blk_drew ?_|refine blk_alloc ?_ _));exact BK109.out⟩,⟨by (with_reducible repeat (first|refine blk_drewN ?_ _|refine blk_drew ?_|refine blk_alloc ?_ _));exact BK110.out⟩,⟨by repeat (first|(with_reducible first|exact HB.out|apply below_alloc|apply pw_below_drewN|apply below_drew1|refine below_set ?_ GE109.out|refine below_set ?_ GE110.out)|exact HB.out)⟩⟩
  case rest =>
   clear HC5
   try clear c1
   try clear c2
   try clear p2
   try clear c3
   try clear c4
   try clear c4b0
   try clear c4b1
   try clear c8
   try clear c12
   try clear c12b0
   try clear c12b1
   try clear hcz11_0
   try clear hcz11_1
   try clear hcz11_2
   try clear hcz9_0
   try clear hcz9_1
   try clear hfz11_0
   try clear hfz11_1
   try clear hfz11_2
   try clear hfz9_0
   try clear hfz9_1
   obtain ⟨kq,x10_4,rfl,HA,HJ4,BK109,BK110,HB⟩:=hcut
   cases kq with
   | zero=>exact absurd HA.out (by simp [spec_EventOk.j0])
   | succ kj4 =>
    have H:=HA.out
    clear HA
    simp only [spec_EventOk.j0] at H
    by_cases c13:x10_4=true
    ·subst c13
     have H1:((spec_l1in.f a1_1 0 (wrap64 ((l0_1.length:Int) - 1))).bind fun t112=>(if t112=true then (if a1_2=1 then (some true) else (some (a1_2==(-1)))) else (some false)))=some r:=by rw [if_pos rfl] at H;exact H
     clear H
     have H:=H1
     clear H1
     replace H:=Option.bind_eq_some_iff.mp H
     obtain ⟨t112,A140,H⟩:=H
     replace H:(if t112=true then (if a1_2=1 then (some true) else (some (a1_2==(-1)))) else (some false))=some r:=H
     have A14:=Aside0.mk A140
     clear A140
     by_cases c15:t112=true
     ·subst c15
      have H1:(if a1_2=1 then (some true) else (some (a1_2==(-1))))=some r:=by rw [if_pos rfl] at H;exact H
      clear H
      have H:=H1
      clear H1
      by_cases c16:a1_2=1
      ·rw [if_pos c16] at H
       have c16b0:(a1_2==1)=true:=beq_iff_eq.mpr c16
       have c16b1:(a1_2 != 1)=false:=bne_eq_false_iff_eq.mpr c16
       clear c16
       obtain rfl:=Option.some.inj H
       have hnb17:=NB110_109.out
       have hnc17:=NB109_110.out
       have hcz18_0:wc.cell? ⟨gb110,0,none⟩=some (.int .i64 a1_0):=(blk_cell BK110.out 0).trans rfl
       have hcz18_1:wc.cell? ⟨gb110,1,none⟩=some (.int .i64 a1_1):=(blk_cell BK110.out 1).trans rfl
       have hcz18_2:wc.cell? ⟨gb110,2,none⟩=some (.int .i64 a1_2):=(blk_cell BK110.out 2).trans rfl
       have hfz18_0:=blk_frozen BK110.out 0
       have hfz18_1:=blk_frozen BK110.out 1
       have hfz18_2:=blk_frozen BK110.out 2
       have hcz19_0:wc.cell? ⟨gb109,0,none⟩=some (.int .i64 a0_0):=(blk_cell BK109.out 0).trans rfl
       have hcz19_1:wc.cell? ⟨gb109,1,none⟩=some (.slice A0_1 l0_1.length c0_1):=(blk_cell BK109.out 1).trans rfl
       have hfz19_0:=blk_frozen BK109.out 0
       have hfz19_1:=blk_frozen BK109.out 1
       go_wp2_with (first|((with_reducible refine gate_callee (f:=51) rfl ?_);refine goesL_ (some 19) rfl rfl Tryd.func51 (by kernel_rfl) rfl #[.int .i64 a1_1,.int .i64 0,.int .i64 (wrap64 ((l0_1.length:Int) - 1))] rfl (by (try simp only [List.map_toArray,List.map_cons,List.map_nil]);first|done|rfl|(simp only [List.length_drop,List.length_take];rfl)) ?_;(with_reducible refine (spec_l1in.calls a1_1 0 (wrap64 ((l0_1.length:Int) - 1)) true _ A14.out).mono ?_);rintro e w' ⟨rfl,⟨nd,rfl⟩⟩;refine ⟨_,rfl,?_⟩))
       go_ret
       exact ⟨by first|rfl|(simp [errW_none,errW_some] <;> rfl)|(simp [*,errW_none,errW_some] <;> rfl),by repeat (first|(with_reducible first|exact HB.out|apply below_alloc|apply pw_below_drewN|apply below_drew1|refine below_set ?_ GE109.out|refine below_set ?_ GE110.out)|exact HB.out)⟩
      rw [if_neg c16] at H
      have c16b0:(a1_2==1)=false:=beq_eq_false_iff_ne.mpr c16
      have c16b1:(a1_2 != 1)=true:=bne_iff_ne.mpr c16
      obtain rfl:=Option.some.inj H
      have hnb20:=NB110_109.out
      have hnc20:=NB109_110.out
      have hcz21_0:wc.cell? ⟨gb110,0,none⟩=some (.int .i64 a1_0):=(blk_cell BK110.out 0).trans rfl
      have hcz21_1:wc.cell? ⟨gb110,1,none⟩=some (.int .i64 a1_1):=(blk_cell BK110.out 1).trans rfl
      have hcz21_2:wc.cell? ⟨gb110,2,none⟩=some (.int .i64 a1_2):=(blk_cell BK110.out 2).trans rfl
      have hfz21_0:=blk_frozen BK110.out 0
      have hfz21_1:=blk_frozen BK110.out 1
      have hfz21_2:=blk_frozen BK110.out 2
      have hcz22_0:wc.cell? ⟨gb109,0,none⟩=some (.int .i64 a0_0):=(blk_cell BK109.out 0).trans rfl
      have hcz22_1:wc.cell? ⟨gb109,1,none⟩=some (.slice A0_1 l0_1.length c0_1):=(blk_cell BK109.out 1).trans rfl
      have hfz22_0:=blk_frozen BK109.out 0
      have hfz22_1:=blk_frozen BK109.out 1
      go_wp2_with (first|((with_reducible refine gate_callee (f:=51) rfl ?_);refine goesL_ (some 19) rfl rfl Tryd.func51 (by kernel_rfl) rfl #[.int .i64 a1_1,.int .i64 0,.int .i64 (wrap64 ((l0_1.length:Int) - 1))] rfl (by (try simp only [List.map_toArray,List.map_cons,List.map_nil]);first|done|rfl|(simp only [List.length_drop,List.length_take];rfl)) ?_;(with_reducible refine (spec_l1in.calls a1_1 0 (wrap64 ((l0_1.length:Int) - 1)) true _ A14.out).mono ?_);rintro e w' ⟨rfl,⟨nd,rfl⟩⟩;refine ⟨_,rfl,?_⟩))
      go_ret
      exact ⟨by first|rfl|(simp [errW_none,errW_some] <;> rfl)|(simp [*,errW_none,errW_some] <;> rfl),by repeat (first|(with_reducible first|exact HB.out|apply below_alloc|apply pw_below_drewN|apply below_drew1|refine below_set ?_ GE109.out|refine below_set ?_ GE110.out)|exact HB.out)⟩
     replace c15:=Bool.eq_false_iff.mpr c15
     subst c15
     have H1:(some false)=some r:=by rw [if_neg (show ¬ (false=true) by decide)] at H;exact H
     clear H
     have H:=H1
     clear H1
     obtain rfl:=Option.some.inj H
     have hnb23:=NB110_109.out
     have hnc23:=NB109_110.out
     have hcz24_0:wc.cell? ⟨gb110,0,none⟩=some (.int .i64 a1_0):=(blk_cell BK110.out 0).trans rfl
     have hcz24_1:wc.cell? ⟨gb110,1,none⟩=some (.int .i64 a1_1):=(blk_cell BK110.out 1).trans rfl
     have hcz24_2:wc.cell? ⟨gb110,2,none⟩=some (.int .i64 a1_2):=(blk_cell BK110.out 2).trans rfl
     have hfz24_0:=blk_frozen BK110.out 0
     have hfz24_1:=blk_frozen BK110.out 1
     have hfz24_2:=blk_frozen BK110.out 2
     have hcz25_0:wc.cell? ⟨gb109,0,none⟩=some (.int .i64 a0_0):=(blk_cell BK109.out 0).trans rfl
     have hcz25_1:wc.cell? ⟨gb109,1,none⟩=some (.slice A0_1 l0_1.length c0_1):=(blk_cell BK109.out 1).trans rfl
     have hfz25_0:=blk_frozen BK109.out 0
     have hfz25_1:=blk_frozen BK109.out 1
     go_wp2_with (first|((with_reducible refine gate_callee (f:=51) rfl ?_);refine goesL_ (some 19) rfl rfl Tryd.func51 (by kernel_rfl) rfl #[.int .i64 a1_1,.int .i64 0,.int .i64 (wrap64 ((l0_1.length:Int) - 1))] rfl (by (try simp only [List.map_toArray,List.map_cons,List.map_nil]);first|done|rfl|(simp only [List.length_drop,List.length_take];rfl)) ?_;(with_reducible refine (spec_l1in.calls a1_1 0 (wrap64 ((l0_1.length:Int) - 1)) false _ A14.out).mono ?_);rintro e w' ⟨rfl,⟨nd,rfl⟩⟩;refine ⟨_,rfl,?_⟩))
     go_ret
     exact ⟨by first|rfl|(simp [errW_none,errW_some] <;> rfl)|(simp [*,errW_none,errW_some] <;> rfl),by repeat (first|(with_reducible first|exact HB.out|apply below_alloc|apply pw_below_drewN|apply below_drew1|refine below_set ?_ GE109.out|refine below_set ?_ GE110.out)|exact HB.out)⟩
    replace c13:=Bool.eq_false_iff.mpr c13
    subst c13
    have H1:(if a1_0=3 then (spec_EventOk.j1 kj4 a1_0 (a1_0==3) a0_0 l0_1 a1_0 a1_1 a1_2) else (spec_EventOk.j1 kj4 a1_0 (a1_0==4) a0_0 l0_1 a1_0 a1_1 a1_2))=some r:=by rw [if_neg (show ¬ (false=true) by decide)] at H;exact H
    clear H
    have H:=H1
    clear H1
    have HC26:=Aside0.mk H
    clear H
    go_upto_if 30 with (fail)
    go_cut [30] (fun v30 wc=>∃ (kq:Nat) (x30_25:Bool),v30=.bool x30_25∧Aside0 (spec_EventOk.j1 kq a1_0 x30_25 a0_0 l0_1 a1_0 a1_1 a1_2=some r)∧Aside0 (kq≤kj4)∧Aside0 (wc.heap[gb109]?=some (.cells #[.int .i64 a0_0,(.slice A0_1 l0_1.length c0_1)] 31 (0,0)))∧Aside0 (wc.heap[gb110]?=some (.cells #[.int .i64 a1_0,.int .i64 a1_1,.int .i64 a1_2] 52 (0,0)))∧Aside0 (Below w.heap.size w wc))
    case first =>
     have H:=HC26.out
     clear HC26
     by_cases c27:a1_0=3
     ·rw [if_pos c27] at H
      have c27b0:(a1_0==3)=true:=beq_iff_eq.mpr c27
      have c27b1:(a1_0 != 3)=false:=bne_eq_false_iff_eq.mpr c27
      clear c27
      (first|rw [c27b0]|(simp only [i64_w,i32_w];rw [c27b0])|skip)
      have H':=Aside0.mk H
      clear H
      go_wp2
      go_meet
      case rel=>exact ⟨_,((a1_0==3)),(by first|rfl|(simp;done)|(simp [*];done)),H',⟨by have:=HJ4.out;first|omega|exact Nat.le_refl _⟩,⟨by (with_reducible repeat (first|refine blk_drewN ?_ _|refine blk_drew ?_|refine blk_alloc ?_ _));exact BK109.out⟩,⟨by (with_reducible repeat (first|refine blk_drewN ?_ _|refine blk_drew ?_|refine blk_alloc ?_ _));exact BK110.out⟩,⟨by repeat (first|(with_reducible first|exact HB.out|apply below_alloc|apply pw_below_drewN|apply below_drew1|refine below_set ?_ GE109.out|refine below_set ?_ GE110.out)|exact HB.out)⟩⟩
     rw [if_neg c27] at H
     have c27b0:(a1_0==3)=false:=beq_eq_false_iff_ne.mpr c27
     have c27b1:(a1_0 != 3)=true:=bne_iff_ne.mpr c27
     (first|rw [c27b0]|(simp only [i64_w,i32_w];rw [c27b0])|skip)
     have H':=Aside0.mk H
     clear H
     go_wp2
     go_meet
     case rel=>exact ⟨_,((a1_0==4)),(by first|rfl|(simp;done)|(simp [*];done)),H',⟨by have:=HJ4.out;first|omega|exact Nat.le_refl _⟩,⟨by (with_reducible repeat (first|refine blk_drewN ?_ _|refine blk_drew ?_|refine blk_alloc ?_ _));exact BK109.out⟩,⟨by (with_reducible repeat (first|refine blk_drewN ?_ _|refine blk_drew ?_|refine blk_alloc ?_ _));exact BK110.out⟩,⟨by repeat (first|(with_reducible first|exact HB.out|apply below_alloc|apply pw_below_drewN|apply below_drew1|refine below_set ?_ GE109.out|refine below_set ?_ GE110.out)|exact HB.out)⟩⟩
    case rest =>
     clear HC26
     try clear c1
     try clear c2
     try clear p2
     try clear c3
     try clear c4
     try clear c4b0
     try clear c4b1
     try clear c5
     try clear p6
     try clear c8
     try clear c12
     try clear c12b0
     try clear c12b1
     try clear c13
     try clear c15
     try clear c16
     try clear c16b0
     try clear c16b1
     try clear c17
     try clear c20
     try clear c23
     try clear c26
     try clear c27
     try clear c27b0
     try clear c27b1
     try clear hcz11_0
     try clear hcz11_1
     try clear hcz11_2
     try clear hcz18_0
     try clear hcz18_1
     try clear hcz18_2
     try clear hcz19_0
     try clear hcz19_1
     try clear hcz21_0
     try clear hcz21_1
     try clear hcz21_2
     try clear hcz22_0
     try clear hcz22_1
     try clear hcz24_0
     try clear hcz24_1
     try clear hcz24_2
     try clear hcz25_0
     try clear hcz25_1
     try clear hcz9_0
     try clear hcz9_1
     try clear hfz11_0
     try clear hfz11_1
     try clear hfz11_2
     try clear hfz18_0
     try clear hfz18_1
     try clear hfz18_2
     try clear hfz19_0
     try clear hfz19_1
     try clear hfz21_0
     try clear hfz21_1
     try clear hfz21_2
     try clear hfz22_0
     try clear hfz22_1
     try clear hfz24_0
     try clear hfz24_1
     try clear hfz24_2
     try clear hfz25_0
     try clear hfz25_1
     try clear hfz9_0
     try clear hfz9_1
     try clear p2
     obtain ⟨kq,x30_25,rfl,HA,HJ25,BK109,BK110,HB⟩:=hcut
     cases kq with
     | zero=>exact absurd HA.out (by simp [spec_EventOk.j1])
     | succ kj25 =>
      have H:=HA.out
      clear HA
      simp only [spec_EventOk.j1] at H
      by_cases c28:x30_25=true
      ·subst c28
       have H1:((spec_l1in.f a1_1 0 (wrap64 ((l0_1.length:Int) - 1))).bind fun t113=>(if t113=true then (some (a1_2==0)) else (some false)))=some r:=by rw [if_pos rfl] at H;exact H
       clear H
       have H:=H1
       clear H1
       replace H:=Option.bind_eq_some_iff.mp H
       obtain ⟨t113,A290,H⟩:=H
       replace H:(if t113=true then (some (a1_2==0)) else (some false))=some r:=H
       have A29:=Aside0.mk A290
       clear A290
       by_cases c30:t113=true
       ·subst c30
        have H1:(some (a1_2==0))=some r:=by rw [if_pos rfl] at H;exact H
        clear H
        have H:=H1
        clear H1
        obtain rfl:=Option.some.inj H
        have hnb31:=NB110_109.out
        have hnc31:=NB109_110.out
        have hcz32_0:wc.cell? ⟨gb110,0,none⟩=some (.int .i64 a1_0):=(blk_cell BK110.out 0).trans rfl
        have hcz32_1:wc.cell? ⟨gb110,1,none⟩=some (.int .i64 a1_1):=(blk_cell BK110.out 1).trans rfl
        have hcz32_2:wc.cell? ⟨gb110,2,none⟩=some (.int .i64 a1_2):=(blk_cell BK110.out 2).trans rfl
        have hfz32_0:=blk_frozen BK110.out 0
        have hfz32_1:=blk_frozen BK110.out 1
        have hfz32_2:=blk_frozen BK110.out 2
        have hcz33_0:wc.cell? ⟨gb109,0,none⟩=some (.int .i64 a0_0):=(blk_cell BK109.out 0).trans rfl
        have hcz33_1:wc.cell? ⟨gb109,1,none⟩=some (.slice A0_1 l0_1.length c0_1):=(blk_cell BK109.out 1).trans rfl
        have hfz33_0:=blk_frozen BK109.out 0
        have hfz33_1:=blk_frozen BK109.out 1
        go_wp2_with (first|((with_reducible refine gate_callee (f:=51) rfl ?_);refine goesL_ (some 39) rfl rfl Tryd.func51 (by kernel_rfl) rfl #[.int .i64 a1_1,.int .i64 0,.int .i64 (wrap64 ((l0_1.length:Int) - 1))] rfl (by (try simp only [List.map_toArray,List.map_cons,List.map_nil]);first|done|rfl|(simp only [List.length_drop,List.length_take];rfl)) ?_;(with_reducible refine (spec_l1in.calls a1_1 0 (wrap64 ((l0_1.length:Int) - 1)) true _ A29.out).mono ?_);rintro e w' ⟨rfl,⟨nd,rfl⟩⟩;refine ⟨_,rfl,?_⟩))
        go_ret
        exact ⟨by first|rfl|(simp [errW_none,errW_some] <;> rfl)|(simp [*,errW_none,errW_some] <;> rfl),by repeat (first|(with_reducible first|exact HB.out|apply below_alloc|apply pw_below_drewN|apply below_drew1|refine below_set ?_ GE109.out|refine below_set ?_ GE110.out)|exact HB.out)⟩
       replace c30:=Bool.eq_false_iff.mpr c30
       subst c30
       have H1:(some false)=some r:=by rw [if_neg (show ¬ (false=true) by decide)] at H;exact H
       clear H
       have H:=H1
       clear H1
       obtain rfl:=Option.some.inj H
       have hnb34:=NB110_109.out
       have hnc34:=NB109_110.out
       have hcz35_0:wc.cell? ⟨gb110,0,none⟩=some (.int .i64 a1_0):=(blk_cell BK110.out 0).trans rfl
       have hcz35_1:wc.cell? ⟨gb110,1,none⟩=some (.int .i64 a1_1):=(blk_cell BK110.out 1).trans rfl
       have hcz35_2:wc.cell? ⟨gb110,2,none⟩=some (.int .i64 a1_2):=(blk_cell BK110.out 2).trans rfl
       have hfz35_0:=blk_frozen BK110.out 0
       have hfz35_1:=blk_frozen BK110.out 1
       have hfz35_2:=blk_frozen BK110.out 2
       have hcz36_0:wc.cell? ⟨gb109,0,none⟩=some (.int .i64 a0_0):=(blk_cell BK109.out 0).trans rfl
       have hcz36_1:wc.cell? ⟨gb109,1,none⟩=some (.slice A0_1 l0_1.length c0_1):=(blk_cell BK109.out 1).trans rfl
       have hfz36_0:=blk_frozen BK109.out 0
       have hfz36_1:=blk_frozen BK109.out 1
       go_wp2_with (first|((with_reducible refine gate_callee (f:=51) rfl ?_);refine goesL_ (some 39) rfl rfl Tryd.func51 (by kernel_rfl) rfl #[.int .i64 a1_1,.int .i64 0,.int .i64 (wrap64 ((l0_1.length:Int) - 1))] rfl (by (try simp only [List.map_toArray,List.map_cons,List.map_nil]);first|done|rfl|(simp only [List.length_drop,List.length_take];rfl)) ?_;(with_reducible refine (spec_l1in.calls a1_1 0 (wrap64 ((l0_1.length:Int) - 1)) false _ A29.out).mono ?_);rintro e w' ⟨rfl,⟨nd,rfl⟩⟩;refine ⟨_,rfl,?_⟩))
       go_ret
       exact ⟨by first|rfl|(simp [errW_none,errW_some] <;> rfl)|(simp [*,errW_none,errW_some] <;> rfl),by repeat (first|(with_reducible first|exact HB.out|apply below_alloc|apply pw_below_drewN|apply below_drew1|refine below_set ?_ GE109.out|refine below_set ?_ GE110.out)|exact HB.out)⟩
      replace c28:=Bool.eq_false_iff.mpr c28
      subst c28
      have H1:(if a1_0=5 then ((spec_l1in.f a1_1 0 (wrap64 (a0_0 - 1))).bind fun t114=>(if t114=true then (some (a1_2==0)) else (some false))) else (some false))=some r:=by rw [if_neg (show ¬ (false=true) by decide)] at H;exact H
      clear H
      have H:=H1
      clear H1
      by_cases c37:a1_0=5
      ·rw [if_pos c37] at H
       have c37b0:(a1_0==5)=true:=beq_iff_eq.mpr c37
       have c37b1:(a1_0 != 5)=false:=bne_eq_false_iff_eq.mpr c37
       clear c37
       replace H:=Option.bind_eq_some_iff.mp H
       obtain ⟨t114,A380,H⟩:=H
       replace H:(if t114=true then (some (a1_2==0)) else (some false))=some r:=H
       have A38:=Aside0.mk A380
       clear A380
       by_cases c39:t114=true
       ·subst c39
        have H1:(some (a1_2==0))=some r:=by rw [if_pos rfl] at H;exact H
        clear H
        have H:=H1
        clear H1
        obtain rfl:=Option.some.inj H
        have hnb40:=NB110_109.out
        have hnc40:=NB109_110.out
        have hcz41_0:wc.cell? ⟨gb110,0,none⟩=some (.int .i64 a1_0):=(blk_cell BK110.out 0).trans rfl
        have hcz41_1:wc.cell? ⟨gb110,1,none⟩=some (.int .i64 a1_1):=(blk_cell BK110.out 1).trans rfl
        have hcz41_2:wc.cell? ⟨gb110,2,none⟩=some (.int .i64 a1_2):=(blk_cell BK110.out 2).trans rfl
        have hfz41_0:=blk_frozen BK110.out 0
        have hfz41_1:=blk_frozen BK110.out 1
        have hfz41_2:=blk_frozen BK110.out 2
        have hcz42_0:wc.cell? ⟨gb109,0,none⟩=some (.int .i64 a0_0):=(blk_cell BK109.out 0).trans rfl
        have hcz42_1:wc.cell? ⟨gb109,1,none⟩=some (.slice A0_1 l0_1.length c0_1):=(blk_cell BK109.out 1).trans rfl
        have hfz42_0:=blk_frozen BK109.out 0
        have hfz42_1:=blk_frozen BK109.out 1
        go_wp2_with (first|((with_reducible refine gate_callee (f:=51) rfl ?_);refine goesL_ (some 52) rfl rfl Tryd.func51 (by kernel_rfl) rfl #[.int .i64 a1_1,.int .i64 0,.int .i64 (wrap64 (a0_0 - 1))] rfl (by (try simp only [List.map_toArray,List.map_cons,List.map_nil]);first|done|rfl|(simp only [List.length_drop,List.length_take];rfl)) ?_;(with_reducible refine (spec_l1in.calls a1_1 0 (wrap64 (a0_0 - 1)) true _ A38.out).mono ?_);rintro e w' ⟨rfl,⟨nd,rfl⟩⟩;refine ⟨_,rfl,?_⟩))
        go_ret
        exact ⟨by first|rfl|(simp [errW_none,errW_some] <;> rfl)|(simp [*,errW_none,errW_some] <;> rfl),by repeat (first|(with_reducible first|exact HB.out|apply below_alloc|apply pw_below_drewN|apply below_drew1|refine below_set ?_ GE109.out|refine below_set ?_ GE110.out)|exact HB.out)⟩
       replace c39:=Bool.eq_false_iff.mpr c39
       subst c39
       have H1:(some false)=some r:=by rw [if_neg (show ¬ (false=true) by decide)] at H;exact H
       clear H
       have H:=H1
       clear H1
       obtain rfl:=Option.some.inj H
       have hnb43:=NB110_109.out
       have hnc43:=NB109_110.out
       have hcz44_0:wc.cell? ⟨gb110,0,none⟩=some (.int .i64 a1_0):=(blk_cell BK110.out 0).trans rfl
       have hcz44_1:wc.cell? ⟨gb110,1,none⟩=some (.int .i64 a1_1):=(blk_cell BK110.out 1).trans rfl
       have hcz44_2:wc.cell? ⟨gb110,2,none⟩=some (.int .i64 a1_2):=(blk_cell BK110.out 2).trans rfl
       have hfz44_0:=blk_frozen BK110.out 0
       have hfz44_1:=blk_frozen BK110.out 1
       have hfz44_2:=blk_frozen BK110.out 2
       have hcz45_0:wc.cell? ⟨gb109,0,none⟩=some (.int .i64 a0_0):=(blk_cell BK109.out 0).trans rfl
       have hcz45_1:wc.cell? ⟨gb109,1,none⟩=some (.slice A0_1 l0_1.length c0_1):=(blk_cell BK109.out 1).trans rfl
       have hfz45_0:=blk_frozen BK109.out 0
       have hfz45_1:=blk_frozen BK109.out 1
       go_wp2_with (first|((with_reducible refine gate_callee (f:=51) rfl ?_);refine goesL_ (some 52) rfl rfl Tryd.func51 (by kernel_rfl) rfl #[.int .i64 a1_1,.int .i64 0,.int .i64 (wrap64 (a0_0 - 1))] rfl (by (try simp only [List.map_toArray,List.map_cons,List.map_nil]);first|done|rfl|(simp only [List.length_drop,List.length_take];rfl)) ?_;(with_reducible refine (spec_l1in.calls a1_1 0 (wrap64 (a0_0 - 1)) false _ A38.out).mono ?_);rintro e w' ⟨rfl,⟨nd,rfl⟩⟩;refine ⟨_,rfl,?_⟩))
       go_ret
       exact ⟨by first|rfl|(simp [errW_none,errW_some] <;> rfl)|(simp [*,errW_none,errW_some] <;> rfl),by repeat (first|(with_reducible first|exact HB.out|apply below_alloc|apply pw_below_drewN|apply below_drew1|refine below_set ?_ GE109.out|refine below_set ?_ GE110.out)|exact HB.out)⟩
      rw [if_neg c37] at H
      have c37b0:(a1_0==5)=false:=beq_eq_false_iff_ne.mpr c37
      have c37b1:(a1_0 != 5)=true:=bne_iff_ne.mpr c37
      obtain rfl:=Option.some.inj H
      go_wp2
      go_ret
      exact ⟨by first|rfl|(simp [errW_none,errW_some] <;> rfl)|(simp [*,errW_none,errW_some] <;> rfl),by repeat (first|(with_reducible first|exact HB.out|apply below_alloc|apply pw_below_drewN|apply below_drew1|refine below_set ?_ GE109.out|refine below_set ?_ GE110.out)|exact HB.out)⟩
 rw [if_neg c4] at H
 have c4b0:(t111==0)=false:=beq_eq_false_iff_ne.mpr c4
 have c4b1:(t111 != 0)=true:=bne_iff_ne.mpr c4
 obtain rfl:=Option.some.inj H
 go_enter Tryd.func26,Tryd.ntmps26
 go_wp2_with (first|((with_reducible refine gate_dst (N:=2) rfl ?_);refine box_event ?hg (N:=2) ?hd (cs:=#[.int .i64 a0_0,.slice A0_1 l0_1.length c0_1]) (t:=31) ?hr ?_;(case hd=>rfl);(case hg=>rfl);(case hr=>first|(go_simp;done)|(go_simp;rfl));intro gb109 hg w46 hbox hb;have n0_:=Aside0.mk (below_step (by repeat (first|(with_reducible first|exact HB.out|apply below_alloc|apply pw_below_drewN|apply below_drew1)|exact HB.out)) hb);have n1_:=Aside0.mk (hbox);have n2_:=Aside0.mk ((by rw [hg];exact (below_size (by repeat (first|(with_reducible first|exact HB.out|apply below_alloc|apply pw_below_drewN|apply below_drew1)|exact HB.out))):w.heap.size≤gb109));have n3_:=Aside0.mk ((by rw [hg];exact (below_size (by repeat (first|(with_reducible first|exact HB.out|apply below_alloc|apply pw_below_drewN|apply below_drew1)|exact HB.out))):w.heap.size≤gb109));clear HB;have HB:=n0_;have BK109:=n1_;have GW109:=n2_;have GE109:=n3_;clear n0_ n1_ n2_ n3_;clear hb hbox hg)|((with_reducible refine gate_dst (N:=3) rfl ?_);refine box_event ?hg (N:=3) ?hd (cs:=#[.int .i64 a1_0,.int .i64 a1_1,.int .i64 a1_2]) (t:=52) ?hr ?_;(case hd=>rfl);(case hg=>rfl);(case hr=>first|(go_simp;done)|(go_simp;rfl));intro gb110 hg w47 hbox hb;have n0_:=Aside0.mk (blk_below (g:=gb109) (o:=.cells #[.int .i64 a0_0,.slice A0_1 l0_1.length c0_1] 31 (0,0)) (by (with_reducible repeat (first|refine blk_drewN ?_ _|refine blk_drew ?_|refine blk_alloc ?_ _));exact BK109.out) hb);have n1_:=Aside0.mk (below_step (by repeat (first|(with_reducible first|exact HB.out|apply below_alloc|apply pw_below_drewN|apply below_drew1|refine below_set ?_ GE109.out)|exact HB.out)) hb);have n2_:=Aside0.mk (hbox);have n3_:=Aside0.mk ((by rw [hg];exact (below_size (by repeat (first|(with_reducible first|exact HB.out|apply below_alloc|apply pw_below_drewN|apply below_drew1|refine below_set ?_ GE109.out)|exact HB.out))):w.heap.size≤gb110));have n4_:=Aside0.mk ((by rw [hg];exact (below_size (by repeat (first|(with_reducible first|exact HB.out|apply below_alloc|apply pw_below_drewN|apply below_drew1|refine below_set ?_ GE109.out)|exact HB.out))):w.heap.size≤gb110));have n5_:=Aside0.mk ((by rw [hg];exact Nat.ne_of_lt (blk_lt (g:=gb109) (o:=.cells #[.int .i64 a0_0,.slice A0_1 l0_1.length c0_1] 31 (0,0)) (by (with_reducible repeat (first|refine blk_drewN ?_ _|refine blk_drew ?_|refine blk_alloc ?_ _));exact BK109.out)):gb109 ≠ gb110));have n6_:=Aside0.mk ((by rw [hg];exact Nat.ne_of_gt (blk_lt (g:=gb109) (o:=.cells #[.int .i64 a0_0,.slice A0_1 l0_1.length c0_1] 31 (0,0)) (by (with_reducible repeat (first|refine blk_drewN ?_ _|refine blk_drew ?_|refine blk_alloc ?_ _));exact BK109.out)):gb110 ≠ gb109));clear BK109;clear HB;have BK109:=n0_;have HB:=n1_;have BK110:=n2_;have GW110:=n3_;have GE110:=n4_;have NB109_110:=n5_;have NB110_109:=n6_;clear n0_ n1_ n2_ n3_ n4_ n5_ n6_;clear hb hbox hg;have hnb48:=NB109_110.out;have hnc48:=NB110_109.out;have hcz49_0:w47.cell? ⟨gb109,0,none⟩=some (.int .i64 a0_0):=(blk_cell BK109.out 0).trans rfl;have hcz49_1:w47.cell? ⟨gb109,1,none⟩=some (.slice A0_1 l0_1.length c0_1):=(blk_cell BK109.out 1).trans rfl;have hfz49_0:=blk_frozen BK109.out 0;have hfz49_1:=blk_frozen BK109.out 1)|((with_reducible refine gate_callee (f:=38) rfl ?_);refine goesL_ (some 6) rfl rfl Tryd.func38 (by kernel_rfl) rfl #[.agg #[.int .i64 a0_0,.slice A0_1 l0_1.length c0_1]] rfl (by (try simp only [List.map_toArray,List.map_cons,List.map_nil]);first|done|rfl|(simp only [List.length_drop,List.length_take];rfl)) ?_;(with_reducible refine (spec_LayoutOk.calls k a0_0 _ _ l0_1 t111 _ ?side1 ?side2 A3.out).mono ?_);(case side1=>repeat (first|exact (Kd.C_below HR0_1.out HB.out)|(with_reducible refine Kd.C_alloc ?_ _)|(with_reducible refine Kd.C_drewN ?_ _)|(with_reducible refine Kd.C_drew ?_)));(case side2=>exact HC0_1.out);rintro e w50 ⟨rfl,hb⟩;refine ⟨_,rfl,?_⟩;have n0_:=Aside0.mk (blk_below (g:=gb109) (o:=.cells #[.int .i64 a0_0,.slice A0_1 l0_1.length c0_1] 31 (0,0)) (by (with_reducible repeat (first|refine blk_drewN ?_ _|refine blk_drew ?_|refine blk_alloc ?_ _));exact BK109.out) hb);have n1_:=Aside0.mk (blk_below (g:=gb110) (o:=.cells #[.int .i64 a1_0,.int .i64 a1_1,.int .i64 a1_2] 52 (0,0)) (by (with_reducible repeat (first|refine blk_drewN ?_ _|refine blk_drew ?_|refine blk_alloc ?_ _));exact BK110.out) hb);have n2_:=Aside0.mk (below_step (by repeat (first|(with_reducible first|exact HB.out|apply below_alloc|apply pw_below_drewN|apply below_drew1|refine below_set ?_ GE109.out|refine below_set ?_ GE110.out)|exact HB.out)) hb);clear BK109;clear BK110;clear HB;have BK109:=n0_;have BK110:=n1_;have HB:=n2_;clear n0_ n1_ n2_;(try clear hb);(try clear hb2);(try clear hk);(try clear hi)))
 go_ret
 exact ⟨by first|rfl|(simp [errW_none,errW_some] <;> rfl)|(simp [*,errW_none,errW_some] <;> rfl),by repeat (first|(with_reducible first|exact HB.out|apply below_alloc|apply pw_below_drewN|apply below_drew1|refine below_set ?_ GE109.out|refine below_set ?_ GE110.out)|exact HB.out)⟩
end Go.Proofs.YtpdnabhpkdchjaaDoor.P
namespace Go.Proofs.YtpdnabhpkdchjaaDoor.P
open Go.RowKit Go.Proofs.YtpdnabhpkdchjaaDoorW.PrintWords Go.Proofs.YtpdnabhpkdchjaaDoorW.PrintLast Go.Proofs.YtpdnabhpkdchjaaDoorW.PrintMore
attribute [local go_sem] max2_int min2_int max_two min_two max_three min_three max_four min_four
set_option linter.unusedVariables false
set_option linter.unusedSimpArgs false
mutual
def impl_EventOk.j0:Nat→Bool→Int→List (S98)→Int→Int→Int→Option (Bool)
 | 0,_,_,_,_,_,_=>none
 | k+1,x5,x162000,x162001,x163000,x163001,x163002=>if x163000=1 then (impl_EventOk.j1 k x5 x163000 (x163000==1) x162000 x162001 x163000 x163001 x163002) else (impl_EventOk.j1 k x5 x163000 (x163000==2) x162000 x162001 x163000 x163001 x163002)
def impl_EventOk.j1:Nat→Bool→Int→Bool→Int→List (S98)→Int→Int→Int→Option (Bool)
 | 0,_,_,_,_,_,_,_,_=>none
 | k+1,x5,x21,x22,x162000,x162001,x163000,x163001,x163002=>if x22=true then (if x5=true then (if x163002=1 then (some true) else (some (x163002==(-1)))) else (some false)) else (if x21=3 then (impl_EventOk.j2 k x5 x21 (x21==3) x162000 x162001 x163000 x163001 x163002) else (impl_EventOk.j2 k x5 x21 (x21==4) x162000 x162001 x163000 x163001 x163002))
def impl_EventOk.j2:Nat→Bool→Int→Bool→Int→List (S98)→Int→Int→Int→Option (Bool)
 | 0,_,_,_,_,_,_,_,_=>none
 | k+1,x5,x21,x36,x162000,x162001,x163000,x163001,x163002=>if x36=true then (if x5=true then (some (x163002==0)) else (some false)) else (if x21=5 then (if x163001 ≥ 0 then (if x163001<x162000 then (some (x163002==0)) else (some false)) else (some false)) else (some false))
end
def impl_EventOk.f (k:Nat) (a0_0:Int) (l0_1:List (S98)) (a1_0:Int) (a1_1:Int) (a1_2:Int):Option (Bool):=(impl_LayoutOk.f a0_0 l0_1).bind fun t163=>(if t163=0 then (if a1_1 ≥ 0 then (impl_EventOk.j0 k (decide (a1_1<(l0_1.length:Int))) a0_0 l0_1 a1_0 a1_1 a1_2) else (impl_EventOk.j0 k false a0_0 l0_1 a1_0 a1_1 a1_2)) else (some false))
set_option maxHeartbeats 8000000 in
set_option maxRecDepth 100000 in
theorem impl_EventOk.calls (k:Nat) (a0_0:Int) (A0_1:Option Addr) (c0_1:Nat) (l0_1:List (S98)) (a1_0:Int) (a1_1:Int) (a1_2:Int) (r:Bool) (w:World) (hr0_1:Kd.C k98 w A0_1 l0_1.length l0_1) (hc0_1:l0_1.length≤c0_1) (h:impl_EventOk.f k a0_0 l0_1 a1_0 a1_1 a1_2=some r) :
  Calls Tryd.prog 31 #[.agg #[.int .i64 a0_0,.slice A0_1 l0_1.length c0_1],.agg #[.int .i64 a1_0,.int .i64 a1_1,.int .i64 a1_2]] w fun e w'=>e=.returned (.bool r)∧Below w.heap.size w w':=by
 have hu31:=Tryd.underlying31
 have hu52:=Tryd.underlying52
 have HR0_1:=Aside0.mk hr0_1
 have HC0_1:=Aside0.mk hc0_1
 clear hr0_1 hc0_1
 have HB:=Aside0.mk (Below.refl w.heap.size w)
 have H:((impl_LayoutOk.f a0_0 l0_1).bind fun t163=>(if t163=0 then (if a1_1 ≥ 0 then (impl_EventOk.j0 k (decide (a1_1<(l0_1.length:Int))) a0_0 l0_1 a1_0 a1_1 a1_2) else (impl_EventOk.j0 k false a0_0 l0_1 a1_0 a1_1 a1_2)) else (some false)))=some r:=h
 clear h
 replace H:=Option.bind_eq_some_iff.mp H
 obtain ⟨t163,A30,H⟩:=H
 replace H:(if t163=0 then (if a1_1 ≥ 0 then (impl_EventOk.j0 k (decide (a1_1<(l0_1.length:Int))) a0_0 l0_1 a1_0 a1_1 a1_2) else (impl_EventOk.j0 k false a0_0 l0_1 a1_0 a1_1 a1_2)) else (some false))=some r:=H
 have A3:=Aside0.mk A30
 clear A30
 by_cases c4:t163=0
 ·rw [if_pos c4] at H
  have c4b0:(t163==0)=true:=beq_iff_eq.mpr c4
  have c4b1:(t163 != 0)=false:=bne_eq_false_iff_eq.mpr c4
  clear c4
  have HC5:=Aside0.mk H
  clear H
  go_enter Tryd.func31,Tryd.ntmps31
  go_upto_region 3 with (first|((with_reducible refine gate_dst (N:=2) rfl ?_);(try (refine gate_guard (by rfl) ?_;dsimp only));refine box_event ?hg (N:=2) ?hd (cs:=#[.int .i64 a0_0,.slice A0_1 l0_1.length c0_1]) (t:=31) ?hr ?_;(case hd=>rfl);(case hg=>rfl);(case hr=>first|(go_simp;done)|(go_simp;rfl));intro gb161 hg w6 hbox hb;have n0_:=Aside0.mk (below_step (by repeat (first|(with_reducible first|exact HB.out|apply below_alloc|apply pw_below_drewN|apply below_drew1)|exact HB.out)) hb);have n1_:=Aside0.mk (hbox);have n2_:=Aside0.mk ((by rw [hg];exact (below_size (by repeat (first|(with_reducible first|exact HB.out|apply below_alloc|apply pw_below_drewN|apply below_drew1)|exact HB.out))):w.heap.size≤gb161));have n3_:=Aside0.mk ((by rw [hg];exact (below_size (by repeat (first|(with_reducible first|exact HB.out|apply below_alloc|apply pw_below_drewN|apply below_drew1)|exact HB.out))):w.heap.size≤gb161));clear HB;have HB:=n0_;have BK161:=n1_;have GW161:=n2_;have GE161:=n3_;clear n0_ n1_ n2_ n3_;clear hb hbox hg)|((with_reducible refine gate_dst (N:=3) rfl ?_);(try (refine gate_guard (by rfl) ?_;dsimp only));refine box_event ?hg (N:=3) ?hd (cs:=#[.int .i64 a1_0,.int .i64 a1_1,.int .i64 a1_2]) (t:=52) ?hr ?_;(case hd=>rfl);(case hg=>rfl);(case hr=>first|(go_simp;done)|(go_simp;rfl));intro gb162 hg w7 hbox hb;have n0_:=Aside0.mk (blk_below (g:=gb161) (o:=.cells #[.int .i64 a0_0,.slice A0_1 l0_1.length c0_1] 31 (0,0)) (by (with_reducible repeat (first|refine blk_drewN ?_ _|refine blk_drew ?_|refine blk_alloc ?_ _));exact BK161.out) hb);have n1_:=Aside0.mk (below_step (by repeat (first|(with_reducible first|exact HB.out|apply below_alloc|apply pw_below_drewN|apply below_drew1|refine below_set ?_ GE161.out)|exact HB.out)) hb);have n2_:=Aside0.mk (hbox);have n3_:=Aside0.mk ((by rw [hg];exact (below_size (by repeat (first|(with_reducible first|exact HB.out|apply below_alloc|apply pw_below_drewN|apply below_drew1|refine below_set ?_ GE161.out)|exact HB.out))):w.heap.size≤gb162));have n4_:=Aside0.mk ((by rw [hg];exact (below_size (by repeat (first|(with_reducible first|exact HB.out|apply below_alloc|apply pw_below_drewN|apply below_drew1|refine below_set ?_ GE161.out)|exact HB.out))):w.heap.size≤gb162));have n5_:=Aside0.mk ((by rw [hg];exact Nat.ne_of_lt (blk_lt (g:=gb161) (o:=.cells #[.int .i64 a0_0,.slice A0_1 l0_1.length c0_1] 31 (0,0)) (by (with_reducible repeat (first|refine blk_drewN ?_ _|refine blk_drew ?_|refine blk_alloc ?_ _));exact BK161.out)):gb161 ≠ gb162));have n6_:=Aside0.mk ((by rw [hg];exact Nat.ne_of_gt (blk_lt (g:=gb161) (o:=.cells #[.int .i64 a0_0,.slice A0_1 l0_1.length c0_1] 31 (0,0)) (by (with_reducible repeat (first|refine blk_drewN ?_ _|refine blk_drew ?_|refine blk_alloc ?_ _));exact BK161.out)):gb162 ≠ gb161));clear BK161;clear HB;have BK161:=n0_;have HB:=n1_;have BK162:=n2_;have GW162:=n3_;have GE162:=n4_;have NB161_162:=n5_;have NB162_161:=n6_;clear n0_ n1_ n2_ n3_ n4_ n5_ n6_;clear hb hbox hg;have hnb8:=NB161_162.out;have hnc8:=NB162_161.out;have hcz9_0:w7.cell? ⟨gb161,0,none⟩=some (.int .i64 a0_0):=(blk_cell BK161.out 0).trans rfl;have hcz9_1:w7.cell? ⟨gb161,1,none⟩=some (.slice A0_1 l0_1.length c0_1):=(blk_cell BK161.out 1).trans rfl;have hfz9_0:=blk_frozen BK161.out 0;have hfz9_1:=blk_frozen BK161.out 1)|((with_reducible refine gate_callee (f:=30) rfl ?_);refine goesL_ (some 7) rfl rfl Tryd.func30 (by kernel_rfl) rfl #[.agg #[.int .i64 a0_0,.slice A0_1 l0_1.length c0_1]] rfl (by (try simp only [List.map_toArray,List.map_cons,List.map_nil]);first|done|rfl|(simp only [List.length_drop,List.length_take];rfl)) ?_;(with_reducible refine (impl_LayoutOk.calls a0_0 _ _ l0_1 t163 _ ?side1 ?side2 A3.out).mono ?_);(case side1=>repeat (first|exact (Kd.C_below HR0_1.out HB.out)|(with_reducible refine Kd.C_alloc ?_ _)|(with_reducible refine Kd.C_drewN ?_ _)|(with_reducible refine Kd.C_drew ?_)));(case side2=>exact HC0_1.out);rintro e w10 ⟨rfl,hb⟩;refine ⟨_,rfl,?_⟩;have n0_:=Aside0.mk (blk_below (g:=gb161) (o:=.cells #[.int .i64 a0_0,.slice A0_1 l0_1.length c0_1] 31 (0,0)) (by (with_reducible repeat (first|refine blk_drewN ?_ _|refine blk_drew ?_|refine blk_alloc ?_ _));exact BK161.out) hb);have n1_:=Aside0.mk (blk_below (g:=gb162) (o:=.cells #[.int .i64 a1_0,.int .i64 a1_1,.int .i64 a1_2] 52 (0,0)) (by (with_reducible repeat (first|refine blk_drewN ?_ _|refine blk_drew ?_|refine blk_alloc ?_ _));exact BK162.out) hb);have n2_:=Aside0.mk (below_step (by repeat (first|(with_reducible first|exact HB.out|apply below_alloc|apply pw_below_drewN|apply below_drew1|refine below_set ?_ GE161.out|refine below_set ?_ GE162.out)|exact HB.out)) hb);clear BK161;clear BK162;clear HB;have BK161:=n0_;have BK162:=n1_;have HB:=n2_;clear n0_ n1_ n2_;(try clear hb);(try clear hb2);(try clear hk);(try clear hi)))
  (try simp only [Act.put,List.setIfInBounds_toArray,List.set_cons_zero,List.set_cons_succ])
  go_cut [5] (fun v5 wc=>∃ (kq:Nat) (x5_4:Bool),v5=.bool x5_4∧Aside0 (impl_EventOk.j0 kq x5_4 a0_0 l0_1 a1_0 a1_1 a1_2=some r)∧Aside0 (kq≤k)∧Aside0 (wc.heap[gb161]?=some (.cells #[.int .i64 a0_0,(.slice A0_1 l0_1.length c0_1)] 31 (0,0)))∧Aside0 (wc.heap[gb162]?=some (.cells #[.int .i64 a1_0,.int .i64 a1_1,.int .i64 a1_2] 52 (0,0)))∧Aside0 (Below w.heap.size w wc))
  case first =>
   have H:=HC5.out
   clear HC5
   by_cases c11:a1_1 ≥ 0
   ·rw [if_pos c11] at H
    have c11b0:decide (0≤a1_1)=true:=decide_eq_true c11
    clear c11
    (first|rw [c11b0]|(simp only [i64_w,i32_w];rw [c11b0])|skip)
    have H':=Aside0.mk H
    clear H
    have hnb12:=NB162_161.out
    have hnc12:=NB161_162.out
    have hcz13_0:w10.cell? ⟨gb162,0,none⟩=some (.int .i64 a1_0):=(blk_cell BK162.out 0).trans rfl
    have hcz13_1:w10.cell? ⟨gb162,1,none⟩=some (.int .i64 a1_1):=(blk_cell BK162.out 1).trans rfl
    have hcz13_2:w10.cell? ⟨gb162,2,none⟩=some (.int .i64 a1_2):=(blk_cell BK162.out 2).trans rfl
    have hfz13_0:=blk_frozen BK162.out 0
    have hfz13_1:=blk_frozen BK162.out 1
    have hfz13_2:=blk_frozen BK162.out 2
    have hcz14_0:w10.cell? ⟨gb161,0,none⟩=some (.int .i64 a0_0):=(blk_cell BK161.out 0).trans rfl
    have hcz14_1:w10.cell? ⟨gb161,1,none⟩=some (.slice A0_1 l0_1.length c0_1):=(blk_cell BK161.out 1).trans rfl
    have hfz14_0:=blk_frozen BK161.out 0
    have hfz14_1:=blk_frozen BK161.out 1
    go_wp2
    go_meet
    case rel=>exact ⟨_,(decide (a1_1<(l0_1.length:Int))),(by first|rfl|(simp;done)|(simp [*];done)),H',⟨by first|omega|exact Nat.le_refl _⟩,⟨by (with_reducible repeat (first|refine blk_drewN ?_ _|refine blk_drew ?_|refine blk_alloc ?_ _));exact BK161.out⟩,⟨by (with_reducible repeat (first|refine blk_drewN ?_ _|refine blk_drew ?_|refine blk_alloc ?_ _));exact BK162.out⟩,⟨by repeat (first|(with_reducible first|exact HB.out|apply below_alloc|apply pw_below_drewN|apply below_drew1|refine below_set ?_ GE161.out|refine below_set ?_ GE162.out)|exact HB.out)⟩⟩
   rw [if_neg c11] at H
   have c11b0:decide (0≤a1_1)=false:=decide_eq_false c11
   clear c11
   (first|rw [c11b0]|(simp only [i64_w,i32_w];rw [c11b0])|skip)
   have H':=Aside0.mk H
   clear H
   have hnb15:=NB162_161.out
   have hnc15:=NB161_162.out
   have hcz16_0:w10.cell? ⟨gb162,0,none⟩=some (.int .i64 a1_0):=(blk_cell BK162.out 0).trans rfl
   have hcz16_1:w10.cell? ⟨gb162,1,none⟩=some (.int .i64 a1_1):=(blk_cell BK162.out 1).trans rfl
   have hcz16_2:w10.cell? ⟨gb162,2,none⟩=some (.int .i64 a1_2):=(blk_cell BK162.out 2).trans rfl
   have hfz16_0:=blk_frozen BK162.out 0
   have hfz16_1:=blk_frozen BK162.out 1
   have hfz16_2:=blk_frozen BK162.out 2
   go_wp2
   go_meet
   case rel=>exact ⟨_,(false),(by first|rfl|(simp;done)|(simp [*];done)),H',⟨by first|omega|exact Nat.le_refl _⟩,⟨by (with_reducible repeat (first|refine blk_drewN ?_ _|refine blk_drew ?_|refine blk_alloc ?_ _));exact BK161.out⟩,⟨by (with_reducible repeat (first|refine blk_drewN ?_ _|refine blk_drew ?_|refine blk_alloc ?_ _));exact BK162.out⟩,⟨by repeat (first|(with_reducible first|exact HB.out|apply below_alloc|apply pw_below_drewN|apply below_drew1|refine below_set ?_ GE161.out|refine below_set ?_ GE162.out)|exact HB.out)⟩⟩
  case rest =>
   clear HC5
   try clear c1
   try clear p2
   try clear c3
   try clear c4
   try clear c4b0
   try clear c4b1
   try clear c8
   try clear c11
   try clear c11b0
   try clear c12
   try clear c15
   try clear hcz13_0
   try clear hcz13_1
   try clear hcz13_2
   try clear hcz14_0
   try clear hcz14_1
   try clear hcz16_0
   try clear hcz16_1
   try clear hcz16_2
   try clear hcz9_0
   try clear hcz9_1
   try clear hfz13_0
   try clear hfz13_1
   try clear hfz13_2
   try clear hfz14_0
   try clear hfz14_1
   try clear hfz16_0
   try clear hfz16_1
   try clear hfz16_2
   try clear hfz9_0
   try clear hfz9_1
   obtain ⟨kq,x5_4,rfl,HA,HJ4,BK161,BK162,HB⟩:=hcut
   cases kq with
   | zero=>exact absurd HA.out (by simp [impl_EventOk.j0])
   | succ kj4 =>
    have H:=HA.out
    clear HA
    simp only [impl_EventOk.j0] at H
    have HC17:=Aside0.mk H
    clear H
    have hnb18:=NB162_161.out
    have hnc18:=NB161_162.out
    have hcz19_0:wc.cell? ⟨gb162,0,none⟩=some (.int .i64 a1_0):=(blk_cell BK162.out 0).trans rfl
    have hcz19_1:wc.cell? ⟨gb162,1,none⟩=some (.int .i64 a1_1):=(blk_cell BK162.out 1).trans rfl
    have hcz19_2:wc.cell? ⟨gb162,2,none⟩=some (.int .i64 a1_2):=(blk_cell BK162.out 2).trans rfl
    have hfz19_0:=blk_frozen BK162.out 0
    have hfz19_1:=blk_frozen BK162.out 1
    have hfz19_2:=blk_frozen BK162.out 2
    go_upto_if 22 with (fail)
    go_cut [22] (fun v22 wc=>∃ (kq:Nat) (x22_16:Bool),v22=.bool x22_16∧Aside0 (impl_EventOk.j1 kq x5_4 a1_0 x22_16 a0_0 l0_1 a1_0 a1_1 a1_2=some r)∧Aside0 (kq≤kj4)∧Aside0 (wc.heap[gb161]?=some (.cells #[.int .i64 a0_0,(.slice A0_1 l0_1.length c0_1)] 31 (0,0)))∧Aside0 (wc.heap[gb162]?=some (.cells #[.int .i64 a1_0,.int .i64 a1_1,.int .i64 a1_2] 52 (0,0)))∧Aside0 (Below w.heap.size w wc))
    case first =>
     have H:=HC17.out
     clear HC17
     by_cases c20:a1_0=1
     ·rw [if_pos c20] at H
      have c20b0:(a1_0==1)=true:=beq_iff_eq.mpr c20
      have c20b1:(a1_0 != 1)=false:=bne_eq_false_iff_eq.mpr c20
      clear c20
      (first|rw [c20b0]|(simp only [i64_w,i32_w];rw [c20b0])|skip)
      have H':=Aside0.mk H
      clear H
      go_wp2
      go_meet
      case rel=>exact ⟨_,((a1_0==1)),(by first|rfl|(simp;done)|(simp [*];done)),H',⟨by have:=HJ4.out;first|omega|exact Nat.le_refl _⟩,⟨by (with_reducible repeat (first|refine blk_drewN ?_ _|refine blk_drew ?_|refine blk_alloc ?_ _));exact BK161.out⟩,⟨by (with_reducible repeat (first|refine blk_drewN ?_ _|refine blk_drew ?_|refine blk_alloc ?_ _));exact BK162.out⟩,⟨by repeat (first|(with_reducible first|exact HB.out|apply below_alloc|apply pw_below_drewN|apply below_drew1|refine below_set ?_ GE161.out|refine below_set ?_ GE162.out)|exact HB.out)⟩⟩
     rw [if_neg c20] at H
     have c20b0:(a1_0==1)=false:=beq_eq_false_iff_ne.mpr c20
     have c20b1:(a1_0 != 1)=true:=bne_iff_ne.mpr c20
     (first|rw [c20b0]|(simp only [i64_w,i32_w];rw [c20b0])|skip)
     have H':=Aside0.mk H
     clear H
     go_wp2
     go_meet
     case rel=>exact ⟨_,((a1_0==2)),(by first|rfl|(simp;done)|(simp [*];done)),H',⟨by have:=HJ4.out;first|omega|exact Nat.le_refl _⟩,⟨by (with_reducible repeat (first|refine blk_drewN ?_ _|refine blk_drew ?_|refine blk_alloc ?_ _));exact BK161.out⟩,⟨by (with_reducible repeat (first|refine blk_drewN ?_ _|refine blk_drew ?_|refine blk_alloc ?_ _));exact BK162.out⟩,⟨by repeat (first|(with_reducible first|exact HB.out|apply below_alloc|apply pw_below_drewN|apply below_drew1|refine below_set ?_ GE161.out|refine below_set ?_ GE162.out)|exact HB.out)⟩⟩
    case rest =>
     clear HC17
     try clear c1
     try clear c2
     try clear p2
     try clear c3
     try clear c4
     try clear c4b0
     try clear c4b1
     try clear c8
     try clear c11
     try clear c11b0
     try clear c12
     try clear c15
     try clear c18
     try clear c20
     try clear c20b0
     try clear c20b1
     try clear hcz13_0
     try clear hcz13_1
     try clear hcz13_2
     try clear hcz14_0
     try clear hcz14_1
     try clear hcz16_0
     try clear hcz16_1
     try clear hcz16_2
     try clear hcz19_0
     try clear hcz19_1
     try clear hcz19_2
     try clear hcz9_0
     try clear hcz9_1
     try clear hfz13_0
     try clear hfz13_1
     try clear hfz13_2
     try clear hfz14_0
     try clear hfz14_1
     try clear hfz16_0
     try clear hfz16_1
     try clear hfz16_2
     try clear hfz19_0
     try clear hfz19_1
     try clear hfz19_2
     try clear hfz9_0
     try clear hfz9_1
     try clear p2
     obtain ⟨kq,x22_16,rfl,HA,HJ16,BK161,BK162,HB⟩:=hcut
     cases kq with
     | zero=>exact absurd HA.out (by simp [impl_EventOk.j1])
     | succ kj16 =>
      have H:=HA.out
      clear HA
      simp only [impl_EventOk.j1] at H
      by_cases c21:x22_16=true
      ·subst c21
       have H1:(if x5_4=true then (if a1_2=1 then (some true) else (some (a1_2==(-1)))) else (some false))=some r:=by rw [if_pos rfl] at H;exact H
       clear H
       have H:=H1
       clear H1
       by_cases c22:x5_4=true
       ·subst c22
        have H1:(if a1_2=1 then (some true) else (some (a1_2==(-1))))=some r:=by rw [if_pos rfl] at H;exact H
        clear H
        have H:=H1
        clear H1
        by_cases c23:a1_2=1
        ·rw [if_pos c23] at H
         have c23b0:(a1_2==1)=true:=beq_iff_eq.mpr c23
         have c23b1:(a1_2 != 1)=false:=bne_eq_false_iff_eq.mpr c23
         clear c23
         obtain rfl:=Option.some.inj H
         have hnb24:=NB162_161.out
         have hnc24:=NB161_162.out
         have hcz25_0:wc.cell? ⟨gb162,0,none⟩=some (.int .i64 a1_0):=(blk_cell BK162.out 0).trans rfl
         have hcz25_1:wc.cell? ⟨gb162,1,none⟩=some (.int .i64 a1_1):=(blk_cell BK162.out 1).trans rfl
         have hcz25_2:wc.cell? ⟨gb162,2,none⟩=some (.int .i64 a1_2):=(blk_cell BK162.out 2).trans rfl
         have hfz25_0:=blk_frozen BK162.out 0
         have hfz25_1:=blk_frozen BK162.out 1
         have hfz25_2:=blk_frozen BK162.out 2
         go_wp2
         go_ret
         exact ⟨by first|rfl|(simp [errW_none,errW_some] <;> rfl)|(simp [*,errW_none,errW_some] <;> rfl),by repeat (first|(with_reducible first|exact HB.out|apply below_alloc|apply pw_below_drewN|apply below_drew1|refine below_set ?_ GE161.out|refine below_set ?_ GE162.out)|exact HB.out)⟩
        rw [if_neg c23] at H
        have c23b0:(a1_2==1)=false:=beq_eq_false_iff_ne.mpr c23
        have c23b1:(a1_2 != 1)=true:=bne_iff_ne.mpr c23
        obtain rfl:=Option.some.inj H
        have hnb26:=NB162_161.out
        have hnc26:=NB161_162.out
        have hcz27_0:wc.cell? ⟨gb162,0,none⟩=some (.int .i64 a1_0):=(blk_cell BK162.out 0).trans rfl
        have hcz27_1:wc.cell? ⟨gb162,1,none⟩=some (.int .i64 a1_1):=(blk_cell BK162.out 1).trans rfl
        have hcz27_2:wc.cell? ⟨gb162,2,none⟩=some (.int .i64 a1_2):=(blk_cell BK162.out 2).trans rfl
        have hfz27_0:=blk_frozen BK162.out 0
        have hfz27_1:=blk_frozen BK162.out 1
        have hfz27_2:=blk_frozen BK162.out 2
        go_wp2
        go_ret
        exact ⟨by first|rfl|(simp [errW_none,errW_some] <;> rfl)|(simp [*,errW_none,errW_some] <;> rfl),by repeat (first|(with_reducible first|exact HB.out|apply below_alloc|apply pw_below_drewN|apply below_drew1|refine below_set ?_ GE161.out|refine below_set ?_ GE162.out)|exact HB.out)⟩
       replace c22:=Bool.eq_false_iff.mpr c22
       subst c22
       have H1:(some false)=some r:=by rw [if_neg (show ¬ (false=true) by decide)] at H;exact H
       clear H
       have H:=H1
       clear H1
       obtain rfl:=Option.some.inj H
       go_wp2
       go_ret
       exact ⟨by first|rfl|(simp [errW_none,errW_some] <;> rfl)|(simp [*,errW_none,errW_some] <;> rfl),by repeat (first|(with_reducible first|exact HB.out|apply below_alloc|apply pw_below_drewN|apply below_drew1|refine below_set ?_ GE161.out|refine below_set ?_ GE162.out)|exact HB.out)⟩
      replace c21:=Bool.eq_false_iff.mpr c21
      subst c21
      have H1:(if a1_0=3 then (impl_EventOk.j2 kj16 x5_4 a1_0 (a1_0==3) a0_0 l0_1 a1_0 a1_1 a1_2) else (impl_EventOk.j2 kj16 x5_4 a1_0 (a1_0==4) a0_0 l0_1 a1_0 a1_1 a1_2))=some r:=by rw [if_neg (show ¬ (false=true) by decide)] at H;exact H
      clear H
      have H:=H1
      clear H1
      have HC28:=Aside0.mk H
      clear H
      go_upto_if 36 with (fail)
      go_cut [36] (fun v36 wc=>∃ (kq:Nat) (x36_27:Bool),v36=.bool x36_27∧Aside0 (impl_EventOk.j2 kq x5_4 a1_0 x36_27 a0_0 l0_1 a1_0 a1_1 a1_2=some r)∧Aside0 (kq≤kj16)∧Aside0 (wc.heap[gb161]?=some (.cells #[.int .i64 a0_0,(.slice A0_1 l0_1.length c0_1)] 31 (0,0)))∧Aside0 (wc.heap[gb162]?=some (.cells #[.int .i64 a1_0,.int .i64 a1_1,.int .i64 a1_2] 52 (0,0)))∧Aside0 (Below w.heap.size w wc))
      case first =>
       have H:=HC28.out
       clear HC28
       by_cases c29:a1_0=3
       ·rw [if_pos c29] at H
        have c29b0:(a1_0==3)=true:=beq_iff_eq.mpr c29
        have c29b1:(a1_0 != 3)=false:=bne_eq_false_iff_eq.mpr c29
        clear c29
        (first|rw [c29b0]|(simp only [i64_w,i32_w];rw [c29b0])|skip)
        have H':=Aside0.mk H
        clear H
        go_wp2
        go_meet
        case rel=>exact ⟨_,((a1_0==3)),(by first|rfl|(simp;done)|(simp [*];done)),H',⟨by have:=HJ4.out;have:=HJ16.out;first|omega|exact Nat.le_refl _⟩,⟨by (with_reducible repeat (first|refine blk_drewN ?_ _|refine blk_drew ?_|refine blk_alloc ?_ _));exact BK161.out⟩,⟨by (with_reducible repeat (first|refine blk_drewN ?_ _|refine blk_drew ?_|refine blk_alloc ?_ _));exact BK162.out⟩,⟨by repeat (first|(with_reducible first|exact HB.out|apply below_alloc|apply pw_below_drewN|apply below_drew1|refine below_set ?_ GE161.out|refine below_set ?_ GE162.out)|exact HB.out)⟩⟩
       rw [if_neg c29] at H
       have c29b0:(a1_0==3)=false:=beq_eq_false_iff_ne.mpr c29
       have c29b1:(a1_0 != 3)=true:=bne_iff_ne.mpr c29
       (first|rw [c29b0]|(simp only [i64_w,i32_w];rw [c29b0])|skip)
       have H':=Aside0.mk H
       clear H
       go_wp2
       go_meet
       case rel=>exact ⟨_,((a1_0==4)),(by first|rfl|(simp;done)|(simp [*];done)),H',⟨by have:=HJ4.out;have:=HJ16.out;first|omega|exact Nat.le_refl _⟩,⟨by (with_reducible repeat (first|refine blk_drewN ?_ _|refine blk_drew ?_|refine blk_alloc ?_ _));exact BK161.out⟩,⟨by (with_reducible repeat (first|refine blk_drewN ?_ _|refine blk_drew ?_|refine blk_alloc ?_ _));exact BK162.out⟩,⟨by repeat (first|(with_reducible first|exact HB.out|apply below_alloc|apply pw_below_drewN|apply below_drew1|refine below_set ?_ GE161.out|refine below_set ?_ GE162.out)|exact HB.out)⟩⟩
      case rest =>
       clear HC28
       try clear c1
       try clear c2
       try clear p2
       try clear c3
       try clear c4
       try clear c4b0
       try clear c4b1
       try clear c8
       try clear c11
       try clear c11b0
       try clear c12
       try clear c15
       try clear c18
       try clear c20
       try clear c20b0
       try clear c20b1
       try clear c21
       try clear c22
       try clear c23
       try clear c23b0
       try clear c23b1
       try clear c24
       try clear c26
       try clear c29
       try clear c29b0
       try clear c29b1
       try clear hcz13_0
       try clear hcz13_1
       try clear hcz13_2
       try clear hcz14_0
       try clear hcz14_1
       try clear hcz16_0
       try clear hcz16_1
       try clear hcz16_2
       try clear hcz19_0
       try clear hcz19_1
       try clear hcz19_2
       try clear hcz25_0
       try clear hcz25_1
       try clear hcz25_2
       try clear hcz27_0
       try clear hcz27_1
       try clear hcz27_2
       try clear hcz9_0
       try clear hcz9_1
       try clear hfz13_0
       try clear hfz13_1
       try clear hfz13_2
       try clear hfz14_0
       try clear hfz14_1
       try clear hfz16_0
       try clear hfz16_1
       try clear hfz16_2
       try clear hfz19_0
       try clear hfz19_1
       try clear hfz19_2
       try clear hfz25_0
       try clear hfz25_1
       try clear hfz25_2
       try clear hfz27_0
       try clear hfz27_1
       try clear hfz27_2
       try clear hfz9_0
       try clear hfz9_1
       try clear p2
       obtain ⟨kq,x36_27,rfl,HA,HJ27,BK161,BK162,HB⟩:=hcut
       cases kq with
       | zero=>exact absurd HA.out (by simp [impl_EventOk.j2])
       | succ kj27 =>
        have H:=HA.out
        clear HA
        simp only [impl_EventOk.j2] at H
        by_cases c30:x36_27=true
        ·subst c30
         have H1:(if x5_4=true then (some (a1_2==0)) else (some false))=some r:=by rw [if_pos rfl] at H;exact H
         clear H
         have H:=H1
         clear H1
         by_cases c31:x5_4=true
         ·subst c31
          have H1:(some (a1_2==0))=some r:=by rw [if_pos rfl] at H;exact H
          clear H
          have H:=H1
          clear H1
          obtain rfl:=Option.some.inj H
          have hnb32:=NB162_161.out
          have hnc32:=NB161_162.out
          have hcz33_0:wc.cell? ⟨gb162,0,none⟩=some (.int .i64 a1_0):=(blk_cell BK162.out 0).trans rfl
          have hcz33_1:wc.cell? ⟨gb162,1,none⟩=some (.int .i64 a1_1):=(blk_cell BK162.out 1).trans rfl
          have hcz33_2:wc.cell? ⟨gb162,2,none⟩=some (.int .i64 a1_2):=(blk_cell BK162.out 2).trans rfl
          have hfz33_0:=blk_frozen BK162.out 0
          have hfz33_1:=blk_frozen BK162.out 1
          have hfz33_2:=blk_frozen BK162.out 2
          go_wp2
          go_ret
          exact ⟨by first|rfl|(simp [errW_none,errW_some] <;> rfl)|(simp [*,errW_none,errW_some] <;> rfl),by repeat (first|(with_reducible first|exact HB.out|apply below_alloc|apply pw_below_drewN|apply below_drew1|refine below_set ?_ GE161.out|refine below_set ?_ GE162.out)|exact HB.out)⟩
         replace c31:=Bool.eq_false_iff.mpr c31
         subst c31
         have H1:(some false)=some r:=by rw [if_neg (show ¬ (false=true) by decide)] at H;exact H
         clear H
         have H:=H1
         clear H1
         obtain rfl:=Option.some.inj H
         go_wp2
         go_ret
         exact ⟨by first|rfl|(simp [errW_none,errW_some] <;> rfl)|(simp [*,errW_none,errW_some] <;> rfl),by repeat (first|(with_reducible first|exact HB.out|apply below_alloc|apply pw_below_drewN|apply below_drew1|refine below_set ?_ GE161.out|refine below_set ?_ GE162.out)|exact HB.out)⟩
        replace c30:=Bool.eq_false_iff.mpr c30
        subst c30
        have H1:(if a1_0=5 then (if a1_1 ≥ 0 then (if a1_1<a0_0 then (some (a1_2==0)) else (some false)) else (some false)) else (some false))=some r:=by rw [if_neg (show ¬ (false=true) by decide)] at H;exact H
        clear H
        have H:=H1
        clear H1
        by_cases c34:a1_0=5
        ·rw [if_pos c34] at H
         have c34b0:(a1_0==5)=true:=beq_iff_eq.mpr c34
         have c34b1:(a1_0 != 5)=false:=bne_eq_false_iff_eq.mpr c34
         clear c34
         by_cases c35:a1_1 ≥ 0
         ·rw [if_pos c35] at H
          have c35b0:decide (0≤a1_1)=true:=decide_eq_true c35
          clear c35
          by_cases c36:a1_1<a0_0
          ·rw [if_pos c36] at H
           have c36b0:decide (a1_1<a0_0)=true:=decide_eq_true c36
           clear c36
           obtain rfl:=Option.some.inj H
           have hnb37:=NB162_161.out
           have hnc37:=NB161_162.out
           have hcz38_0:wc.cell? ⟨gb162,0,none⟩=some (.int .i64 a1_0):=(blk_cell BK162.out 0).trans rfl
           have hcz38_1:wc.cell? ⟨gb162,1,none⟩=some (.int .i64 a1_1):=(blk_cell BK162.out 1).trans rfl
           have hcz38_2:wc.cell? ⟨gb162,2,none⟩=some (.int .i64 a1_2):=(blk_cell BK162.out 2).trans rfl
           have hfz38_0:=blk_frozen BK162.out 0
           have hfz38_1:=blk_frozen BK162.out 1
           have hfz38_2:=blk_frozen BK162.out 2
           have hcz39_0:wc.cell? ⟨gb161,0,none⟩=some (.int .i64 a0_0):=(blk_cell BK161.out 0).trans rfl
           have hcz39_1:wc.cell? ⟨gb161,1,none⟩=some (.slice A0_1 l0_1.length c0_1):=(blk_cell BK161.out 1).trans rfl
           have hfz39_0:=blk_frozen BK161.out 0
           have hfz39_1:=blk_frozen BK161.out 1
           go_wp2
           go_ret
           exact ⟨by first|rfl|(simp [errW_none,errW_some] <;> rfl)|(simp [*,errW_none,errW_some] <;> rfl),by repeat (first|(with_reducible first|exact HB.out|apply below_alloc|apply pw_below_drewN|apply below_drew1|refine below_set ?_ GE161.out|refine below_set ?_ GE162.out)|exact HB.out)⟩
          rw [if_neg c36] at H
          have c36b0:decide (a1_1<a0_0)=false:=decide_eq_false c36
          clear c36
          obtain rfl:=Option.some.inj H
          have hnb40:=NB162_161.out
          have hnc40:=NB161_162.out
          have hcz41_0:wc.cell? ⟨gb162,0,none⟩=some (.int .i64 a1_0):=(blk_cell BK162.out 0).trans rfl
          have hcz41_1:wc.cell? ⟨gb162,1,none⟩=some (.int .i64 a1_1):=(blk_cell BK162.out 1).trans rfl
          have hcz41_2:wc.cell? ⟨gb162,2,none⟩=some (.int .i64 a1_2):=(blk_cell BK162.out 2).trans rfl
          have hfz41_0:=blk_frozen BK162.out 0
          have hfz41_1:=blk_frozen BK162.out 1
          have hfz41_2:=blk_frozen BK162.out 2
          have hcz42_0:wc.cell? ⟨gb161,0,none⟩=some (.int .i64 a0_0):=(blk_cell BK161.out 0).trans rfl
          have hcz42_1:wc.cell? ⟨gb161,1,none⟩=some (.slice A0_1 l0_1.length c0_1):=(blk_cell BK161.out 1).trans rfl
          have hfz42_0:=blk_frozen BK161.out 0
          have hfz42_1:=blk_frozen BK161.out 1
          go_wp2
          go_ret
          exact ⟨by first|rfl|(simp [errW_none,errW_some] <;> rfl)|(simp [*,errW_none,errW_some] <;> rfl),by repeat (first|(with_reducible first|exact HB.out|apply below_alloc|apply pw_below_drewN|apply below_drew1|refine below_set ?_ GE161.out|refine below_set ?_ GE162.out)|exact HB.out)⟩
         rw [if_neg c35] at H
         have c35b0:decide (0≤a1_1)=false:=decide_eq_false c35
         clear c35
         obtain rfl:=Option.some.inj H
         have hnb43:=NB162_161.out
         have hnc43:=NB161_162.out
         have hcz44_0:wc.cell? ⟨gb162,0,none⟩=some (.int .i64 a1_0):=(blk_cell BK162.out 0).trans rfl
         have hcz44_1:wc.cell? ⟨gb162,1,none⟩=some (.int .i64 a1_1):=(blk_cell BK162.out 1).trans rfl
         have hcz44_2:wc.cell? ⟨gb162,2,none⟩=some (.int .i64 a1_2):=(blk_cell BK162.out 2).trans rfl
         have hfz44_0:=blk_frozen BK162.out 0
         have hfz44_1:=blk_frozen BK162.out 1
         have hfz44_2:=blk_frozen BK162.out 2
         go_wp2
         go_ret
         exact ⟨by first|rfl|(simp [errW_none,errW_some] <;> rfl)|(simp [*,errW_none,errW_some] <;> rfl),by repeat (first|(with_reducible first|exact HB.out|apply below_alloc|apply pw_below_drewN|apply below_drew1|refine below_set ?_ GE161.out|refine below_set ?_ GE162.out)|exact HB.out)⟩
        rw [if_neg c34] at H
        have c34b0:(a1_0==5)=false:=beq_eq_false_iff_ne.mpr c34
        have c34b1:(a1_0 != 5)=true:=bne_iff_ne.mpr c34
        obtain rfl:=Option.some.inj H
        go_wp2
        go_ret
        exact ⟨by first|rfl|(simp [errW_none,errW_some] <;> rfl)|(simp [*,errW_none,errW_some] <;> rfl),by repeat (first|(with_reducible first|exact HB.out|apply below_alloc|apply pw_below_drewN|apply below_drew1|refine below_set ?_ GE161.out|refine below_set ?_ GE162.out)|exact HB.out)⟩
 rw [if_neg c4] at H
 have c4b0:(t163==0)=false:=beq_eq_false_iff_ne.mpr c4
 have c4b1:(t163 != 0)=true:=bne_iff_ne.mpr c4
 obtain rfl:=Option.some.inj H
 go_enter Tryd.func31,Tryd.ntmps31
 go_wp2_with (first|((with_reducible refine gate_dst (N:=2) rfl ?_);(try (refine gate_guard (by rfl) ?_;dsimp only));refine box_event ?hg (N:=2) ?hd (cs:=#[.int .i64 a0_0,.slice A0_1 l0_1.length c0_1]) (t:=31) ?hr ?_;(case hd=>rfl);(case hg=>rfl);(case hr=>first|(go_simp;done)|(go_simp;rfl));intro gb161 hg w45 hbox hb;have n0_:=Aside0.mk (below_step (by repeat (first|(with_reducible first|exact HB.out|apply below_alloc|apply pw_below_drewN|apply below_drew1)|exact HB.out)) hb);have n1_:=Aside0.mk (hbox);have n2_:=Aside0.mk ((by rw [hg];exact (below_size (by repeat (first|(with_reducible first|exact HB.out|apply below_alloc|apply pw_below_drewN|apply below_drew1)|exact HB.out))):w.heap.size≤gb161));have n3_:=Aside0.mk ((by rw [hg];exact (below_size (by repeat (first|(with_reducible first|exact HB.out|apply below_alloc|apply pw_below_drewN|apply below_drew1)|exact HB.out))):w.heap.size≤gb161));clear HB;have HB:=n0_;have BK161:=n1_;have GW161:=n2_;have GE161:=n3_;clear n0_ n1_ n2_ n3_;clear hb hbox hg)|((with_reducible refine gate_dst (N:=3) rfl ?_);(try (refine gate_guard (by rfl) ?_;dsimp only));refine box_event ?hg (N:=3) ?hd (cs:=#[.int .i64 a1_0,.int .i64 a1_1,.int .i64 a1_2]) (t:=52) ?hr ?_;(case hd=>rfl);(case hg=>rfl);(case hr=>first|(go_simp;done)|(go_simp;rfl));intro gb162 hg w46 hbox hb;have n0_:=Aside0.mk (blk_below (g:=gb161) (o:=.cells #[.int .i64 a0_0,.slice A0_1 l0_1.length c0_1] 31 (0,0)) (by (with_reducible repeat (first|refine blk_drewN ?_ _|refine blk_drew ?_|refine blk_alloc ?_ _));exact BK161.out) hb);have n1_:=Aside0.mk (below_step (by repeat (first|(with_reducible first|exact HB.out|apply below_alloc|apply pw_below_drewN|apply below_drew1|refine below_set ?_ GE161.out)|exact HB.out)) hb);have n2_:=Aside0.mk (hbox);have n3_:=Aside0.mk ((by rw [hg];exact (below_size (by repeat (first|(with_reducible first|exact HB.out|apply below_alloc|apply pw_below_drewN|apply below_drew1|refine below_set ?_ GE161.out)|exact HB.out))):w.heap.size≤gb162));have n4_:=Aside0.mk ((by rw [hg];exact (below_size (by repeat (first|(with_reducible first|exact HB.out|apply below_alloc|apply pw_below_drewN|apply below_drew1|refine below_set ?_ GE161.out)|exact HB.out))):w.heap.size≤gb162));have n5_:=Aside0.mk ((by rw [hg];exact Nat.ne_of_lt (blk_lt (g:=gb161) (o:=.cells #[.int .i64 a0_0,.slice A0_1 l0_1.length c0_1] 31 (0,0)) (by (with_reducible repeat (first|refine blk_drewN ?_ _|refine blk_drew ?_|refine blk_alloc ?_ _));exact BK161.out)):gb161 ≠ gb162));have n6_:=Aside0.mk ((by rw [hg];exact Nat.ne_of_gt (blk_lt (g:=gb161) (o:=.cells #[.int .i64 a0_0,.slice A0_1 l0_1.length c0_1] 31 (0,0)) (by (with_reducible repeat (first|refine blk_drewN ?_ _|refine blk_drew ?_|refine blk_alloc ?_ _));exact BK161.out)):gb162 ≠ gb161));clear BK161;clear HB;have BK161:=n0_;have HB:=n1_;have BK162:=n2_;have GW162:=n3_;have GE162:=n4_;have NB161_162:=n5_;have NB162_161:=n6_;clear n0_ n1_ n2_ n3_ n4_ n5_ n6_;clear hb hbox hg;have hnb47:=NB161_162.out;have hnc47:=NB162_161.out;have hcz48_0:w46.cell? ⟨gb161,0,none⟩=some (.int .i64 a0_0):=(blk_cell BK161.out 0).trans rfl;have hcz48_1:w46.cell? ⟨gb161,1,none⟩=some (.slice A0_1 l0_1.length c0_1):=(blk_cell BK161.out 1).trans rfl;have hfz48_0:=blk_frozen BK161.out 0;have hfz48_1:=blk_frozen BK161.out 1)|((with_reducible refine gate_callee (f:=30) rfl ?_);refine goesL_ (some 7) rfl rfl Tryd.func30 (by kernel_rfl) rfl #[.agg #[.int .i64 a0_0,.slice A0_1 l0_1.length c0_1]] rfl (by (try simp only [List.map_toArray,List.map_cons,List.map_nil]);first|done|rfl|(simp only [List.length_drop,List.length_take];rfl)) ?_;(with_reducible refine (impl_LayoutOk.calls a0_0 _ _ l0_1 t163 _ ?side1 ?side2 A3.out).mono ?_);(case side1=>repeat (first|exact (Kd.C_below HR0_1.out HB.out)|(with_reducible refine Kd.C_alloc ?_ _)|(with_reducible refine Kd.C_drewN ?_ _)|(with_reducible refine Kd.C_drew ?_)));(case side2=>exact HC0_1.out);rintro e w49 ⟨rfl,hb⟩;refine ⟨_,rfl,?_⟩;have n0_:=Aside0.mk (blk_below (g:=gb161) (o:=.cells #[.int .i64 a0_0,.slice A0_1 l0_1.length c0_1] 31 (0,0)) (by (with_reducible repeat (first|refine blk_drewN ?_ _|refine blk_drew ?_|refine blk_alloc ?_ _));exact BK161.out) hb);have n1_:=Aside0.mk (blk_below (g:=gb162) (o:=.cells #[.int .i64 a1_0,.int .i64 a1_1,.int .i64 a1_2] 52 (0,0)) (by (with_reducible repeat (first|refine blk_drewN ?_ _|refine blk_drew ?_|refine blk_alloc ?_ _));exact BK162.out) hb);have n2_:=Aside0.mk (below_step (by repeat (first|(with_reducible first|exact HB.out|apply below_alloc|apply pw_below_drewN|apply below_drew1|refine below_set ?_ GE161.out|refine below_set ?_ GE162.out)|exact HB.out)) hb);clear BK161;clear BK162;clear HB;have BK161:=n0_;have BK162:=n1_;have HB:=n2_;clear n0_ n1_ n2_;(try clear hb);(try clear hb2);(try clear hk);(try clear hi)))
 go_ret
 exact ⟨by first|rfl|(simp [errW_none,errW_some] <;> rfl)|(simp [*,errW_none,errW_some] <;> rfl),by repeat (first|(with_reducible first|exact HB.out|apply below_alloc|apply pw_below_drewN|apply below_drew1|refine below_set ?_ GE161.out|refine below_set ?_ GE162.out)|exact HB.out)⟩
end Go.Proofs.YtpdnabhpkdchjaaDoor.P
namespace Go.Proofs.YtpdnabhpkdchjaaDoor.P
open Go.RowKit Go.Proofs.YtpdnabhpkdchjaaDoorW.PrintWords Go.Proofs.YtpdnabhpkdchjaaDoorW.PrintLast
set_option linter.unusedVariables false
set_option linter.unusedSimpArgs false
def eventOk (n : Int) (l : List S98) (op of dir : Int) : Bool :=
  if layoutOk n l = 0 then
    if op = 1 ∨ op = 2 then decide (0 ≤ of) && decide (of < l.length) && (decide (dir = 1) || decide (dir = -1))
    else if op = 3 ∨ op = 4 then decide (0 ≤ of) && decide (of < l.length) && decide (dir = 0)
    else if op = 5 then decide (0 ≤ of) && decide (of < n) && decide (dir = 0)
    else false
  else false
theorem beq_dec (a b : Int) : (a == b) = decide (a = b) := by by_cases h : a = b <;> simp [h]
theorem lay_n {n : Int} {l : List S98} (h : layoutOk n l = 0) : 1 ≤ n ∧ n ≤ 60 ∧ l.length ≤ 120 := by
  unfold layoutOk at h
  split at h
  · cases h
  · split at h
    · cases h
    · split at h
      · cases h
      · omega
theorem dec_le_pred (a b : Int) : decide (a ≤ b - 1) = decide (a < b) := by
  by_cases h : a < b
  · rw [decide_eq_true h, decide_eq_true (by omega)]
  · rw [decide_eq_false h, decide_eq_false (by omega)]
theorem specEventOk_ev (n : Int) (l : List S98) (op of dir : Int) : Ev (fun k => spec_EventOk.f k n l op of dir) (eventOk n l op of dir) := by
  unfold spec_EventOk.f
  refine Ev.bind (specLayoutOk_ev n l) ?_
  by_cases hl : layoutOk n l = 0
  · refine Ev.ite_pos hl ?_
    obtain ⟨hn1, hn2, hc⟩ := lay_n hl
    have w1 : wrap64 ((l.length : Int) - 1) = l.length - 1 := wrap_id (by omega) (by omega)
    have w2 : wrap64 (n - 1) = n - 1 := wrap_id (by omega) (by omega)
    have key : ∀ b : Bool, (b = true ↔ (op = 1 ∨ op = 2)) → Ev (fun k => spec_EventOk.j0 k op b n l op of dir) (eventOk n l op of dir) := by
      intro b hb
      by_cases h12 : op = 1 ∨ op = 2
      · refine Ev.step1 fun k => ?_
        simp only [spec_EventOk.j0, l1in_eq, Option.bind_some, w1, w2, dec_le_pred]
        rw [if_pos (hb.2 h12), eventOk, if_pos hl, if_pos h12]
        by_cases hr : (decide (0 ≤ of) && decide (of < l.length)) = true
        · rw [if_pos hr, hr]
          by_cases hd : dir = 1
          · simp [hd]
          · rw [if_neg hd]; simp [hd, beq_dec]
        · have hr' : (decide (0 ≤ of) && decide (of < l.length)) = false := by simpa using hr
          rw [if_neg hr, hr']; rfl
      · have key2 : ∀ b2 : Bool, (b2 = true ↔ (op = 3 ∨ op = 4)) → Ev (fun k => spec_EventOk.j1 k op b2 n l op of dir) (eventOk n l op of dir) := by
          intro b2 hb2
          refine Ev.step1 fun k => ?_
          simp only [spec_EventOk.j1, l1in_eq, Option.bind_some, w1, w2, dec_le_pred]
          rw [eventOk, if_pos hl, if_neg h12]
          by_cases h34 : op = 3 ∨ op = 4
          · rw [if_pos (hb2.2 h34), if_pos h34]
            by_cases hr : (decide (0 ≤ of) && decide (of < l.length)) = true
            · rw [if_pos hr, hr]; simp [beq_dec]
            · have hr' : (decide (0 ≤ of) && decide (of < l.length)) = false := by simpa using hr
              rw [if_neg hr, hr']; rfl
          · rw [if_neg (fun h => h34 (hb2.1 h)), if_neg h34]
            by_cases h5 : op = 5
            · rw [if_pos h5, if_pos h5]
              by_cases hr : (decide (0 ≤ of) && decide (of < n)) = true
              · rw [if_pos hr, hr]; simp [beq_dec]
              · have hr' : (decide (0 ≤ of) && decide (of < n)) = false := by simpa using hr
                rw [if_neg hr, hr']; rfl
            · rw [if_neg h5, if_neg h5]
        by_cases h3 : op = 3
        · refine Ev.step (fun k => ?_) (key2 (op == 3) (by simp [h3]))
          simp only [spec_EventOk.j0]
          rw [if_neg (fun h => h12 (hb.1 h)), if_pos h3]
        · refine Ev.step (fun k => ?_) (key2 (op == 4) (by simp [h3]))
          simp only [spec_EventOk.j0]
          rw [if_neg (fun h => h12 (hb.1 h)), if_neg h3]
    by_cases h1 : op = 1
    · exact Ev.ite_pos h1 (key _ (by simp [h1]))
    · exact Ev.ite_neg h1 (key _ (by simp [h1]))
  · refine Ev.ite_neg hl ?_
    rw [eventOk, if_neg hl]
    exact Ev.now _
theorem implEventOk_ev (n : Int) (l : List S98) (op of dir : Int) : Ev (fun k => impl_EventOk.f k n l op of dir) (eventOk n l op of dir) := by
  unfold impl_EventOk.f
  refine Ev.call (a := layoutOk n l) rfl ?_
  by_cases hl : layoutOk n l = 0
  · refine Ev.ite_pos hl ?_
    have key : ∀ b : Bool, b = (decide (0 ≤ of) && decide (of < l.length)) → Ev (fun k => impl_EventOk.j0 k b n l op of dir) (eventOk n l op of dir) := by
      intro b hb
      have k1 : ∀ b1 : Bool, (b1 = true ↔ (op = 1 ∨ op = 2)) → Ev (fun k => impl_EventOk.j1 k b op b1 n l op of dir) (eventOk n l op of dir) := by
        intro b1 hb1
        by_cases h12 : op = 1 ∨ op = 2
        · refine Ev.step1 fun k => ?_
          simp only [impl_EventOk.j1]
          rw [if_pos (hb1.2 h12), eventOk, if_pos hl, if_pos h12, ← hb]
          cases b with
          | true =>
            by_cases hd : dir = 1
            · simp [hd]
            · simp [hd, beq_dec]
          | false => rfl
        · have k2 : ∀ b2 : Bool, (b2 = true ↔ (op = 3 ∨ op = 4)) → Ev (fun k => impl_EventOk.j2 k b op b2 n l op of dir) (eventOk n l op of dir) := by
            intro b2 hb2
            refine Ev.step1 fun k => ?_
            simp only [impl_EventOk.j2]
            rw [eventOk, if_pos hl, if_neg h12, ← hb]
            by_cases h34 : op = 3 ∨ op = 4
            · rw [if_pos (hb2.2 h34), if_pos h34]
              cases b <;> simp [beq_dec]
            · rw [if_neg (fun h => h34 (hb2.1 h)), if_neg h34]
              by_cases h5 : op = 5
              · rw [if_pos h5, if_pos h5]
                by_cases h0 : of ≥ 0
                · rw [if_pos h0]
                  by_cases h6 : of < n
                  · rw [if_pos h6]; simp [beq_dec, h6, h0]
                  · rw [if_neg h6]; simp [h6]
                · rw [if_neg h0]; simp [show ¬ 0 ≤ of from h0]
              · rw [if_neg h5, if_neg h5]
          by_cases h3 : op = 3
          · refine Ev.step (fun k => ?_) (k2 (op == 3) (by simp [h3]))
            simp only [impl_EventOk.j1]
            rw [if_neg (fun h => h12 (hb1.1 h)), if_pos h3]
          · refine Ev.step (fun k => ?_) (k2 (op == 4) (by simp [h3]))
            simp only [impl_EventOk.j1]
            rw [if_neg (fun h => h12 (hb1.1 h)), if_neg h3]
      by_cases h1 : op = 1
      · refine Ev.step (fun k => ?_) (k1 (op == 1) (by simp [h1]))
        simp only [impl_EventOk.j0]
        rw [if_pos h1]
      · refine Ev.step (fun k => ?_) (k1 (op == 2) (by simp [h1]))
        simp only [impl_EventOk.j0]
        rw [if_neg h1]
    by_cases h0 : of ≥ 0
    · exact Ev.ite_pos h0 (key _ (by simp [show (0 : Int) ≤ of from h0]))
    · exact Ev.ite_neg h0 (key _ (by simp [show ¬ (0 : Int) ≤ of from h0]))
  · refine Ev.ite_neg hl ?_
    rw [eventOk, if_neg hl]
    exact Ev.now _
end Go.Proofs.YtpdnabhpkdchjaaDoor.P
namespace Go.Proofs.YtpdnabhpkdchjaaDoor.P
open Go Go.RowKit Go.Proofs.YtpdnabhpkdchjaaDoorW.PrintWords Go.Proofs.YtpdnabhpkdchjaaDoorW.PrintLast
set_option linter.unusedVariables false
set_option linter.unusedSimpArgs false
def evB (e : S52) : List UInt8 := lineB e.f0 e.f1 e.f2
theorem ev_parts {n : Int} {l : List S98} {op of dir : Int} (h : eventOk n l op of dir = true) : layoutOk n l = 0 ∧ (1 ≤ op ∧ op ≤ 5) ∧ (0 ≤ of ∧ of ≤ 119) ∧ (-1 ≤ dir ∧ dir ≤ 1) ∧ ((op = 1 ∨ op = 2) ∧ (dir = 1 ∨ dir = -1) ∨ (op = 3 ∨ op = 4 ∨ op = 5) ∧ dir = 0) := by
  unfold eventOk at h
  split at h
  · rename_i hl
    have hn := lay_n hl
    split at h
    · simp at h; omega
    · split at h
      · simp at h; omega
      · split at h
        · simp at h; omega
        · cases h
  · cases h
theorem evB_len {n : Int} {l : List S98} {e : S52} (h : eventOk n l e.f0 e.f1 e.f2 = true) : (evB e).length ≤ 130 := by
  have hp := ev_parts h
  have h1 := word_len e.f0.toNat
  have h2 := digits_len e.f1.toNat
  have h3 : (dirB e.f2).length ≤ 2 := by unfold dirB; split <;> (try split) <;> simp
  unfold evB lineB
  simp only [List.length_append, List.length_singleton]
  omega
end Go.Proofs.YtpdnabhpkdchjaaDoor.P
namespace Go.Proofs.YtpdnabhpkdchjaaDoor.P
open Go.RowKit Go.Proofs.YtpdnabhpkdchjaaDoorW.PrintWords Go.Proofs.YtpdnabhpkdchjaaDoorW.PrintLast Go.Proofs.YtpdnabhpkdchjaaDoorW.PrintMore
set_option linter.unusedVariables false
section
variable {n : Int} {A : Option Addr} {c : Nat} {l : List S98} {w : World}
theorem lay_is (hr : Kd.C k98 w A l.length l) (hc : l.length ≤ c) : Calls Tryd.prog 30 #[.agg #[.int .i64 n, .slice A l.length c]] w fun e w' => e = .returned (.int .i64 (layoutOk n l)) ∧ Below w.heap.size w w' :=
  impl_LayoutOk.calls n A c l _ w hr hc rfl
theorem ev_is (op of dir : Int) (hr : Kd.C k98 w A l.length l) (hc : l.length ≤ c) : Calls Tryd.prog 31 #[.agg #[.int .i64 n, .slice A l.length c], .agg #[.int .i64 op, .int .i64 of, .int .i64 dir]] w fun e w' => e = .returned (.bool (eventOk n l op of dir)) ∧ Below w.heap.size w w' := by
  obtain ⟨k, h⟩ := (implEventOk_ev n l op of dir).rounds
  exact impl_EventOk.calls k n A c l op of dir _ w hr hc h
theorem ev_at {b : Bool} (op of dir : Int) (hb : eventOk n l op of dir = b) (hr : Kd.C k98 w A l.length l) (hc : l.length ≤ c) : Calls Tryd.prog 31 #[.agg #[.int .i64 n, .slice A l.length c], .agg #[.int .i64 op, .int .i64 of, .int .i64 dir]] w fun e w' => e = .returned (.bool b) ∧ Below w.heap.size w w' := hb ▸ ev_is op of dir hr hc
theorem lay_at {k : Int} (hk : layoutOk n l = k) (hr : Kd.C k98 w A l.length l) (hc : l.length ≤ c) : Calls Tryd.prog 30 #[.agg #[.int .i64 n, .slice A l.length c]] w fun e w' => e = .returned (.int .i64 k) ∧ Below w.heap.size w w' := hk ▸ lay_is hr hc
end
end Go.Proofs.YtpdnabhpkdchjaaDoor.P
namespace Go.Proofs.YtpdnabhpkdchjaaDoor.P
open Go Go.RowKit Go.Proofs.YtpdnabhpkdchjaaDoorW.PrintWords Go.Proofs.YtpdnabhpkdchjaaDoorW.PrintLast Go.Proofs.YtpdnabhpkdchjaaDoorW.PrintMore
set_option linter.unusedVariables false
set_option linter.unusedSimpArgs false
theorem fill3e {w w' : World} {g t : Nat} {x0 x1 x2 y0 y1 y2 : Value} (hx : w'.heap[g]? = some (.cells #[x0, x1, x2] t (0, 0))) (hb : Below w.heap.size w w') (hg : w.heap.size ≤ g) :
    Below w.heap.size w (((w'.setCell ⟨g, 0, none⟩ y0).setCell ⟨g, 1, none⟩ y1).setCell ⟨g, 2, none⟩ y2) ∧ (((w'.setCell ⟨g, 0, none⟩ y0).setCell ⟨g, 1, none⟩ y1).setCell ⟨g, 2, none⟩ y2).heap[g]? = some (.cells #[y0, y1, y2] t (0, 0)) :=
  ⟨below_set (j := 2) (v := y2) (below_set (j := 1) (v := y1) (below_set (j := 0) (v := y0) hb hg) hg) hg, blk_put (blk_put (blk_put hx 0 y0 rfl) 1 y1 rfl) 2 y2 rfl⟩
end Go.Proofs.YtpdnabhpkdchjaaDoor.P
namespace Go.Proofs.YtpdnabhpkdchjaaDoor.P
open Go.RowKit Go.Proofs.YtpdnabhpkdchjaaDoorW.PrintWords Go.Proofs.YtpdnabhpkdchjaaDoorW.PrintLast Go.Proofs.YtpdnabhpkdchjaaDoorW.PrintMore
attribute [local go_sem] max2_int min2_int max_two min_two max_three min_three max_four min_four
set_option linter.unusedVariables false
set_option linter.unusedSimpArgs false
def spec_l4words.f :Option (List ByteArray):=some (([(⟨#[]⟩:ByteArray),(⟨#[112,97,115,115]⟩:ByteArray),(⟨#[103,104,111,115,116]⟩:ByteArray),(⟨#[100,101,97,100]⟩:ByteArray),(⟨#[97,108,105,118,101]⟩:ByteArray),(⟨#[114,101,115,101,116]⟩:ByteArray)]:List ByteArray))
set_option maxHeartbeats 8000000 in
set_option maxRecDepth 100000 in
theorem spec_l4words.calls  (r:List ByteArray) (w:World) (h:spec_l4words.f =some r) :
  Calls Tryd.prog 52 #[] w fun e w'=>∃ v0_:Value,e=.returned (v0_)∧Kd.R Kd.string 9 w' w.heap.size (fun _=>True) v0_ r∧Below w.heap.size w w':=by
 have HB:=Aside0.mk (Below.refl w.heap.size w)
 have H:(some (([(⟨#[]⟩:ByteArray),(⟨#[112,97,115,115]⟩:ByteArray),(⟨#[103,104,111,115,116]⟩:ByteArray),(⟨#[100,101,97,100]⟩:ByteArray),(⟨#[97,108,105,118,101]⟩:ByteArray),(⟨#[114,101,115,101,116]⟩:ByteArray)]:List ByteArray)))=some r:=h
 clear h
 obtain ⟨y116,hy116⟩:∃ y_:List ByteArray,y_=(([(⟨#[]⟩:ByteArray),(⟨#[112,97,115,115]⟩:ByteArray),(⟨#[103,104,111,115,116]⟩:ByteArray),(⟨#[100,101,97,100]⟩:ByteArray),(⟨#[97,108,105,118,101]⟩:ByteArray),(⟨#[114,101,115,101,116]⟩:ByteArray)]:List ByteArray)):=⟨_,rfl⟩
 replace H:(some y116)=some r:=by first|(rw [hy116];with_reducible exact H)|(have H2_:=(Option.bind_some _ _).symm.trans H;rw [hy116];with_reducible exact H2_)|(have H2_:=(Option.bind_some _ _).symm.trans H;with_reducible exact H2_)|with_reducible exact H|(rw [hy116];exact H)|exact H
 have Ny116:=Aside0.mk hy116
 clear hy116
 obtain rfl:=Option.some.inj H
 go_enter Tryd.func52,Tryd.ntmps52
 go_wp2_with (first|((with_reducible refine gate_dst (N:=1) rfl ?_);refine Kd.R_lit Kd.string _ 9 ?hg (N:=1) ?hd (xs:=([(⟨#[]⟩:ByteArray),(⟨#[112,97,115,115]⟩:ByteArray),(⟨#[103,104,111,115,116]⟩:ByteArray),(⟨#[100,101,97,100]⟩:ByteArray),(⟨#[97,108,105,118,101]⟩:ByteArray),(⟨#[114,101,115,101,116]⟩:ByteArray)]:List ByteArray)) (inner:=[.string (⟨#[]⟩:ByteArray),.string (⟨#[112,97,115,115]⟩:ByteArray),.string (⟨#[103,104,111,115,116]⟩:ByteArray),.string (⟨#[100,101,97,100]⟩:ByteArray),.string (⟨#[97,108,105,118,101]⟩:ByteArray),.string (⟨#[114,101,115,101,116]⟩:ByteArray)]) (ok:=fun _=>True) (okp:=fun _=>True) ?hr ?hp (fun _ hk=>hk) trivial (Below.refl _ _) (Nat.le_refl _) (by simp) ?_;(case hd=>rfl);(case hg=>rfl);(case hr=>first|(go_simp;done)|(go_simp;rfl));(case hp=>exact (Reps.one (show Kd.M Kd.string _ _ _ (⟨#[]⟩:ByteArray) [.string (⟨#[]⟩:ByteArray)] from rfl) (Reps.one (show Kd.M Kd.string _ _ _ (⟨#[112,97,115,115]⟩:ByteArray) [.string (⟨#[112,97,115,115]⟩:ByteArray)] from rfl) (Reps.one (show Kd.M Kd.string _ _ _ (⟨#[103,104,111,115,116]⟩:ByteArray) [.string (⟨#[103,104,111,115,116]⟩:ByteArray)] from rfl) (Reps.one (show Kd.M Kd.string _ _ _ (⟨#[100,101,97,100]⟩:ByteArray) [.string (⟨#[100,101,97,100]⟩:ByteArray)] from rfl) (Reps.one (show Kd.M Kd.string _ _ _ (⟨#[97,108,105,118,101]⟩:ByteArray) [.string (⟨#[97,108,105,118,101]⟩:ByteArray)] from rfl) (Reps.one (show Kd.M Kd.string _ _ _ (⟨#[114,101,115,101,116]⟩:ByteArray) [.string (⟨#[114,101,115,101,116]⟩:ByteArray)] from rfl) (Reps.none _ _))))))));intro v117 w1 ho2 hb hg_ hnew_;clear hg_ hnew_;(first|rw [← Ny116.out] at ho2|(simp only [Int.reduceToNat] at ho2;rw [← Ny116.out] at ho2));have n0_:=Aside0.mk (Kd.R_lower ho2 (below_size (by repeat (first|(with_reducible first|exact HB.out|apply below_alloc|apply pw_below_drewN|apply below_drew1)|exact HB.out))));have n1_:=Aside0.mk (below_step (by repeat (first|(with_reducible first|exact HB.out|apply below_alloc|apply pw_below_drewN|apply below_drew1)|exact HB.out)) hb);clear HB;have HO118:=n0_;have HB:=n1_;clear n0_ n1_;clear hb ho2))
 go_ret
 exact ⟨_,by first|rfl|(simp [errW_none,errW_some] <;> rfl)|(simp [*,errW_none,errW_some] <;> rfl),by (with_reducible repeat (first|apply Kd.R_alloc|apply Kd.R_drewN|apply Kd.R_drew));exact HO118.out,by repeat (first|(with_reducible first|exact HB.out|apply below_alloc|apply pw_below_drewN|apply below_drew1)|exact HB.out)⟩
end Go.Proofs.YtpdnabhpkdchjaaDoor.P
namespace Go.Proofs.YtpdnabhpkdchjaaDoor.P
open Go.RowKit Go.Proofs.YtpdnabhpkdchjaaDoorW.PrintWords Go.Proofs.YtpdnabhpkdchjaaDoorW.PrintLast Go.Proofs.YtpdnabhpkdchjaaDoorW.PrintMore
attribute [local go_sem] max2_int min2_int max_two min_two max_three min_three max_four min_four
set_option linter.unusedVariables false
set_option linter.unusedSimpArgs false
def spec_l4line.f (a0_0:Int) (a0_1:Int) (a0_2:Int):Option (ByteArray):=(spec_l4words.f).bind fun t120=>(if 0≤a0_0 then (if a0_0<(t120.length:Int) then (if (rdOf ByteArray.empty t120 a0_0).size+1≤9223372036854775807 then ((spec_l4decimal.f a0_1).bind fun t124=>(if ((rdOf ByteArray.empty t120 a0_0) ++ (⟨#[32]⟩:ByteArray)).size+t124.size≤9223372036854775807 then (if a0_2 > 0 then (if (((rdOf ByteArray.empty t120 a0_0) ++ (⟨#[32]⟩:ByteArray)) ++ t124).size+2≤9223372036854775807 then (if a0_2<0 then (if ((((rdOf ByteArray.empty t120 a0_0) ++ (⟨#[32]⟩:ByteArray)) ++ t124) ++ (⟨#[32,43]⟩:ByteArray)).size+2≤9223372036854775807 then (some (((((rdOf ByteArray.empty t120 a0_0) ++ (⟨#[32]⟩:ByteArray)) ++ t124) ++ (⟨#[32,43]⟩:ByteArray)) ++ (⟨#[32,45]⟩:ByteArray))) else (none)) else (some ((((rdOf ByteArray.empty t120 a0_0) ++ (⟨#[32]⟩:ByteArray)) ++ t124) ++ (⟨#[32,43]⟩:ByteArray)))) else (none)) else (if a0_2<0 then (if (((rdOf ByteArray.empty t120 a0_0) ++ (⟨#[32]⟩:ByteArray)) ++ t124).size+2≤9223372036854775807 then (some ((((rdOf ByteArray.empty t120 a0_0) ++ (⟨#[32]⟩:ByteArray)) ++ t124) ++ (⟨#[32,45]⟩:ByteArray))) else (none)) else (some (((rdOf ByteArray.empty t120 a0_0) ++ (⟨#[32]⟩:ByteArray)) ++ t124)))) else (none))) else (none)) else (none)) else (none))
def spec_l4line.T2:Bool × List (List Nat × List Nat):=(true,[([],[]),([],[]),([1],[1]),([0,2],[0,2]),([3],[3]),([4],[4]),([],[]),([6],[6]),([7],[7]),([5,8],[5,8]),([9,8,0,1,2,3,4,5,6,7,8,9],[9])])
def spec_l4line.B2:List Nat:=[0,0,2,7,15,31,0,64,192,511,1023]
theorem spec_l4line.tab2:rtab .any (opsOf Tryd.f27 2)=spec_l4line.T2:=by kernel_rfl
theorem spec_l4line.bits2:waitsOk spec_l4line.T2.2 spec_l4line.B2=true:=by kernel_rfl
set_option maxHeartbeats 8000000 in
set_option maxRecDepth 100000 in
theorem spec_l4line.calls (a0_0:Int) (a0_1:Int) (a0_2:Int) (r:ByteArray) (w:World) (h:spec_l4line.f a0_0 a0_1 a0_2=some r) :
  Calls Tryd.prog 27 #[.agg #[.int .i64 a0_0,.int .i64 a0_1,.int .i64 a0_2]] w fun e w'=>e=.returned (.string r)∧Below w.heap.size w w':=by
 have hu52:=Tryd.underlying52
 have HB:=Aside0.mk (Below.refl w.heap.size w)
 have H:((spec_l4words.f).bind fun t120=>(if 0≤a0_0 then (if a0_0<(t120.length:Int) then (if (rdOf ByteArray.empty t120 a0_0).size+1≤9223372036854775807 then ((spec_l4decimal.f a0_1).bind fun t124=>(if ((rdOf ByteArray.empty t120 a0_0) ++ (⟨#[32]⟩:ByteArray)).size+t124.size≤9223372036854775807 then (if a0_2 > 0 then (if (((rdOf ByteArray.empty t120 a0_0) ++ (⟨#[32]⟩:ByteArray)) ++ t124).size+2≤9223372036854775807 then (if a0_2<0 then (if ((((rdOf ByteArray.empty t120 a0_0) ++ (⟨#[32]⟩:ByteArray)) ++ t124) ++ (⟨#[32,43]⟩:ByteArray)).size+2≤9223372036854775807 then (some (((((rdOf ByteArray.empty t120 a0_0) ++ (⟨#[32]⟩:ByteArray)) ++ t124) ++ (⟨#[32,43]⟩:ByteArray)) ++ (⟨#[32,45]⟩:ByteArray))) else (none)) else (some ((((rdOf ByteArray.empty t120 a0_0) ++ (⟨#[32]⟩:ByteArray)) ++ t124) ++ (⟨#[32,43]⟩:ByteArray)))) else (none)) else (if a0_2<0 then (if (((rdOf ByteArray.empty t120 a0_0) ++ (⟨#[32]⟩:ByteArray)) ++ t124).size+2≤9223372036854775807 then (some ((((rdOf ByteArray.empty t120 a0_0) ++ (⟨#[32]⟩:ByteArray)) ++ t124) ++ (⟨#[32,45]⟩:ByteArray))) else (none)) else (some (((rdOf ByteArray.empty t120 a0_0) ++ (⟨#[32]⟩:ByteArray)) ++ t124)))) else (none))) else (none)) else (none)) else (none)))=some r:=h
 clear h
 replace H:=Option.bind_eq_some_iff.mp H
 obtain ⟨t120,A20,H⟩:=H
 replace H:(if 0≤a0_0 then (if a0_0<(t120.length:Int) then (if (rdOf ByteArray.empty t120 a0_0).size+1≤9223372036854775807 then ((spec_l4decimal.f a0_1).bind fun t124=>(if ((rdOf ByteArray.empty t120 a0_0) ++ (⟨#[32]⟩:ByteArray)).size+t124.size≤9223372036854775807 then (if a0_2 > 0 then (if (((rdOf ByteArray.empty t120 a0_0) ++ (⟨#[32]⟩:ByteArray)) ++ t124).size+2≤9223372036854775807 then (if a0_2<0 then (if ((((rdOf ByteArray.empty t120 a0_0) ++ (⟨#[32]⟩:ByteArray)) ++ t124) ++ (⟨#[32,43]⟩:ByteArray)).size+2≤9223372036854775807 then (some (((((rdOf ByteArray.empty t120 a0_0) ++ (⟨#[32]⟩:ByteArray)) ++ t124) ++ (⟨#[32,43]⟩:ByteArray)) ++ (⟨#[32,45]⟩:ByteArray))) else (none)) else (some ((((rdOf ByteArray.empty t120 a0_0) ++ (⟨#[32]⟩:ByteArray)) ++ t124) ++ (⟨#[32,43]⟩:ByteArray)))) else (none)) else (if a0_2<0 then (if (((rdOf ByteArray.empty t120 a0_0) ++ (⟨#[32]⟩:ByteArray)) ++ t124).size+2≤9223372036854775807 then (some ((((rdOf ByteArray.empty t120 a0_0) ++ (⟨#[32]⟩:ByteArray)) ++ t124) ++ (⟨#[32,45]⟩:ByteArray))) else (none)) else (some (((rdOf ByteArray.empty t120 a0_0) ++ (⟨#[32]⟩:ByteArray)) ++ t124)))) else (none))) else (none)) else (none)) else (none))=some r:=H
 have A2:=Aside0.mk A20
 clear A20
 by_cases c3:0≤a0_0
 ·rw [if_pos c3] at H
  have c3b0:decide (0≤a0_0)=true:=decide_eq_true c3
  clear c3
  by_cases c4:a0_0<(t120.length:Int)
  ·rw [if_pos c4] at H
   have c4b0:decide (a0_0<(t120.length:Int))=true:=decide_eq_true c4
   clear c4
   by_cases c5:(rdOf ByteArray.empty t120 a0_0).size+1≤9223372036854775807
   ·rw [if_pos c5] at H
    have c5b0:=eq_true c5
    have c5b1:decide ((rdOf ByteArray.empty t120 a0_0).size+1≤9223372036854775807)=true:=decide_eq_true c5
    try have c5b2:(9223372036854775807<(rdOf ByteArray.empty t120 a0_0).size+1)=False:=eq_false (Nat.not_lt.2 c5)
    replace H:=Option.bind_eq_some_iff.mp H
    obtain ⟨t124,A60,H⟩:=H
    replace H:(if ((rdOf ByteArray.empty t120 a0_0) ++ (⟨#[32]⟩:ByteArray)).size+t124.size≤9223372036854775807 then (if a0_2 > 0 then (if (((rdOf ByteArray.empty t120 a0_0) ++ (⟨#[32]⟩:ByteArray)) ++ t124).size+2≤9223372036854775807 then (if a0_2<0 then (if ((((rdOf ByteArray.empty t120 a0_0) ++ (⟨#[32]⟩:ByteArray)) ++ t124) ++ (⟨#[32,43]⟩:ByteArray)).size+2≤9223372036854775807 then (some (((((rdOf ByteArray.empty t120 a0_0) ++ (⟨#[32]⟩:ByteArray)) ++ t124) ++ (⟨#[32,43]⟩:ByteArray)) ++ (⟨#[32,45]⟩:ByteArray))) else (none)) else (some ((((rdOf ByteArray.empty t120 a0_0) ++ (⟨#[32]⟩:ByteArray)) ++ t124) ++ (⟨#[32,43]⟩:ByteArray)))) else (none)) else (if a0_2<0 then (if (((rdOf ByteArray.empty t120 a0_0) ++ (⟨#[32]⟩:ByteArray)) ++ t124).size+2≤9223372036854775807 then (some ((((rdOf ByteArray.empty t120 a0_0) ++ (⟨#[32]⟩:ByteArray)) ++ t124) ++ (⟨#[32,45]⟩:ByteArray))) else (none)) else (some (((rdOf ByteArray.empty t120 a0_0) ++ (⟨#[32]⟩:ByteArray)) ++ t124)))) else (none))=some r:=H
    have A6:=Aside0.mk A60
    clear A60
    by_cases c7:((rdOf ByteArray.empty t120 a0_0) ++ (⟨#[32]⟩:ByteArray)).size+t124.size≤9223372036854775807
    ·rw [if_pos c7] at H
     have c7b0:=eq_true c7
     have c7b1:decide (((rdOf ByteArray.empty t120 a0_0) ++ (⟨#[32]⟩:ByteArray)).size+t124.size≤9223372036854775807)=true:=decide_eq_true c7
     try have c7b2:(9223372036854775807<((rdOf ByteArray.empty t120 a0_0) ++ (⟨#[32]⟩:ByteArray)).size+t124.size)=False:=eq_false (Nat.not_lt.2 c7)
     have c7n0n_1:(rdOf ByteArray.empty t120 a0_0).size+1+t124.size≤9223372036854775807:=by have:=c7;simp only [ByteArray.size_append] at this;exact this
     have c7n0n_2:(9223372036854775807<(rdOf ByteArray.empty t120 a0_0).size+1+t124.size)=False:=eq_false (Nat.not_lt.2 c7n0n_1)
     have c7n0n_3:((rdOf ByteArray.empty t120 a0_0).size+1+t124.size≤9223372036854775807)=True:=eq_true c7n0n_1
     by_cases c8:a0_2 > 0
     ·rw [if_pos c8] at H
      have c8b0:decide (0<a0_2)=true:=decide_eq_true c8
      clear c8
      by_cases c9:(((rdOf ByteArray.empty t120 a0_0) ++ (⟨#[32]⟩:ByteArray)) ++ t124).size+2≤9223372036854775807
      ·rw [if_pos c9] at H
       have c9b0:=eq_true c9
       have c9b1:decide ((((rdOf ByteArray.empty t120 a0_0) ++ (⟨#[32]⟩:ByteArray)) ++ t124).size+2≤9223372036854775807)=true:=decide_eq_true c9
       try have c9b2:(9223372036854775807<(((rdOf ByteArray.empty t120 a0_0) ++ (⟨#[32]⟩:ByteArray)) ++ t124).size+2)=False:=eq_false (Nat.not_lt.2 c9)
       have c9n0n_1:(rdOf ByteArray.empty t120 a0_0).size+1+t124.size+2≤9223372036854775807:=by have:=c9;simp only [ByteArray.size_append] at this;exact this
       have c9n0n_2:(9223372036854775807<(rdOf ByteArray.empty t120 a0_0).size+1+t124.size+2)=False:=eq_false (Nat.not_lt.2 c9n0n_1)
       have c9n0n_3:((rdOf ByteArray.empty t120 a0_0).size+1+t124.size+2≤9223372036854775807)=True:=eq_true c9n0n_1
       by_cases c10:a0_2<0
       ·rw [if_pos c10] at H
        have c10b0:decide (a0_2<0)=true:=decide_eq_true c10
        clear c10
        by_cases c11:((((rdOf ByteArray.empty t120 a0_0) ++ (⟨#[32]⟩:ByteArray)) ++ t124) ++ (⟨#[32,43]⟩:ByteArray)).size+2≤9223372036854775807
        ·rw [if_pos c11] at H
         have c11b0:=eq_true c11
         have c11b1:decide (((((rdOf ByteArray.empty t120 a0_0) ++ (⟨#[32]⟩:ByteArray)) ++ t124) ++ (⟨#[32,43]⟩:ByteArray)).size+2≤9223372036854775807)=true:=decide_eq_true c11
         try have c11b2:(9223372036854775807<((((rdOf ByteArray.empty t120 a0_0) ++ (⟨#[32]⟩:ByteArray)) ++ t124) ++ (⟨#[32,43]⟩:ByteArray)).size+2)=False:=eq_false (Nat.not_lt.2 c11)
         have c11n0n_1:(rdOf ByteArray.empty t120 a0_0).size+1+t124.size+2+2≤9223372036854775807:=by have:=c11;simp only [ByteArray.size_append] at this;exact this
         have c11n0n_2:(9223372036854775807<(rdOf ByteArray.empty t120 a0_0).size+1+t124.size+2+2)=False:=eq_false (Nat.not_lt.2 c11n0n_1)
         have c11n0n_3:((rdOf ByteArray.empty t120 a0_0).size+1+t124.size+2+2≤9223372036854775807)=True:=eq_true c11n0n_1
         have c11n1n_1:(rdOf ByteArray.empty t120 a0_0).size+1+t124.size+4≤9223372036854775807:=by have:=c11;simp only [ByteArray.size_append] at this;exact this
         have c11n1n_2:(9223372036854775807<(rdOf ByteArray.empty t120 a0_0).size+1+t124.size+4)=False:=eq_false (Nat.not_lt.2 c11n1n_1)
         have c11n1n_3:((rdOf ByteArray.empty t120 a0_0).size+1+t124.size+4≤9223372036854775807)=True:=eq_true c11n1n_1
         obtain rfl:=Option.some.inj H
         go_enter Tryd.func27,Tryd.ntmps27
         try go_wp2_with (first|((with_reducible refine gate_dst (N:=1) rfl ?_);refine box_event ?hg (N:=1) ?hd (cs:=#[.int .i64 a0_0,.int .i64 a0_1,.int .i64 a0_2]) (t:=52) ?hr ?_;(case hd=>rfl);(case hg=>rfl);(case hr=>first|(go_simp;done)|(go_simp;rfl));intro gb119 hg w12 hbox hb;have n0_:=Aside0.mk (below_step (by repeat (first|(with_reducible first|exact HB.out|apply below_alloc|apply pw_below_drewN|apply below_drew1)|exact HB.out)) hb);have n1_:=Aside0.mk (hbox);have n2_:=Aside0.mk ((by rw [hg];exact (below_size (by repeat (first|(with_reducible first|exact HB.out|apply below_alloc|apply pw_below_drewN|apply below_drew1)|exact HB.out))):w.heap.size≤gb119));have n3_:=Aside0.mk ((by rw [hg];exact (below_size (by repeat (first|(with_reducible first|exact HB.out|apply below_alloc|apply pw_below_drewN|apply below_drew1)|exact HB.out))):w.heap.size≤gb119));clear HB;have HB:=n0_;have BK119:=n1_;have GW119:=n2_;have GE119:=n3_;clear n0_ n1_ n2_ n3_;clear hb hbox hg)|((with_reducible refine gate_callee (f:=52) rfl ?_);refine goesL_ (some 5) rfl rfl Tryd.func52 (by kernel_rfl) rfl #[] rfl (by (try simp only [List.map_toArray,List.map_cons,List.map_nil]);first|done|rfl|(simp only [List.length_drop,List.length_take];rfl)) ?_;(with_reducible refine (spec_l4words.calls  t120 _ A2.out).mono ?_);rintro e w13 ⟨v121,rfl,ho0,hb⟩;refine ⟨_,rfl,?_⟩;have n0_:=Aside0.mk (Kd.R_lower ho0 (below_size (by repeat (first|(with_reducible first|exact HB.out|apply below_alloc|apply pw_below_drewN|apply below_drew1|refine below_set ?_ GE119.out)|exact HB.out))));have n1_:=Aside0.mk (blk_below (g:=gb119) (o:=.cells #[.int .i64 a0_0,.int .i64 a0_1,.int .i64 a0_2] 52 (0,0)) (by (with_reducible repeat (first|refine blk_drewN ?_ _|refine blk_drew ?_|refine blk_alloc ?_ _));exact BK119.out) hb);have n2_:=Aside0.mk (below_step (by repeat (first|(with_reducible first|exact HB.out|apply below_alloc|apply pw_below_drewN|apply below_drew1|refine below_set ?_ GE119.out)|exact HB.out)) hb);clear BK119;clear HB;have HO122:=n0_;have BK119:=n1_;have HB:=n2_;clear n0_ n1_ n2_;(try clear hb);(try clear hb2);(try clear hk);(try clear hi);(try clear ho0)))
         have n0_:=Aside0.mk (Kd.R_drew HO122.out)
         have n1_:=Aside0.mk (blk_drew BK119.out)
         have n2_:=Aside0.mk (below_drew1 HB.out)
         clear HO122
         clear BK119
         clear HB
         have HO122:=n0_
         have BK119:=n1_
         have HB:=n2_
         clear n0_ n1_ n2_
         obtain ⟨Ao15,co15,eo15⟩:=Kd.R_slice HO122.out
         (first|subst eo15|(injection eo15 with f1_ f2_ f3_;have f4_:=f1_.symm;have f5_:=f3_.symm;clear f1_ f2_ f3_;subst f4_;subst f5_))
         have p123:0≤(a0_0:Int):=of_decide_eq_true (by first|(with_reducible assumption)|assumption)
         have q123:a0_0<(t120.length:Int):=of_decide_eq_true (by first|(with_reducible assumption)|assumption)
         obtain ⟨ad123,e123,hx123_0⟩:=Kd.at_string (Kd.R_reads' HO122.out).2.2 a0_0 p123 q123
         cases e123
         replace p123:=eq_true p123
         replace q123:=eq_true q123
         refine start_ (n:=11) (S:=fun w'=>w'.cell? ⟨gb119,0,none⟩=some (.int .i64 a0_0)∧w'.cell? ⟨gb119,1,none⟩=some (.int .i64 a0_1)∧w'.cell? ⟨gb119,2,none⟩=some (.int .i64 a0_2)∧w'.cell? (ad123.add (a0_0).toNat)=some (.string (rdOf ByteArray.empty t120 a0_0))) (ds:=[]) #[false,false,false,false,false,false,false,false,false,false,false] (by kernel_rfl) rfl rfl ⟨(blk_cell BK119.out 0).trans rfl,(blk_cell BK119.out 1).trans rfl,(blk_cell BK119.out 2).trans rfl,hx123_0⟩ (fun hHeld=>?_);refine with_tabW spec_l4line.tab2 spec_l4line.bits2 (fun HT_ HW_=>?_)
         generalize w13.drew=w14 at HO122 BK119 HB hx123_0 hHeld ⊢
         refine pure_ (i:=0) (N:=some 6) (v:=?_) (a':=?_) #[true,false,false,false,false,false,false,false,false,false,false] rfl rfl (any_of HT_.out (by kernel_rfl)) (fun _ _ _ h=>h) (Or.inl ⟨by rfl,?_⟩) ?_ ?_
         rotate_left
         ·intro w'
          go_simp
          with_reducible rfl
         rotate_left
         ·simp only [Act.put,List.setIfInBounds_toArray,List.set_cons_zero,List.set_cons_succ,i64_w,i32_w]
          rfl
         refine pure_ (i:=1) (N:=some 7) (v:=?_) (a':=?_) #[true,true,false,false,false,false,false,false,false,false,false] rfl rfl (any_of HT_.out (by kernel_rfl)) (fun _ _ _ h=>h) (Or.inl ⟨by rfl,?_⟩) ?_ ?_
         rotate_left
         ·intro w'
          go_simp
          with_reducible rfl
         rotate_left
         ·simp only [Act.put,List.setIfInBounds_toArray,List.set_cons_zero,List.set_cons_succ,i64_w,i32_w]
          rfl
         refine pure_ (i:=6) (N:=some 12) (v:=?_) (a':=?_) #[true,true,false,false,false,false,true,false,false,false,false] rfl rfl (any_of HT_.out (by kernel_rfl)) (fun _ _ _ h=>h) (Or.inl ⟨by rfl,?_⟩) ?_ ?_
         rotate_left
         ·intro w'
          go_simp
          with_reducible rfl
         rotate_left
         ·simp only [Act.put,List.setIfInBounds_toArray,List.set_cons_zero,List.set_cons_succ,i64_w,i32_w]
          rfl
         refine take_ (i:=2) (N:=some 8) (v:=?_) (a':=?_) #[true,true,true,false,false,false,true,false,false,false,false] rfl rfl (take_ofW HT_.out HW_.out (by kernel_rfl)) (fun _ _ _ h=>h) (Or.inl ⟨by rfl,?_⟩) hHeld ?_ ?_
         rotate_left
         ·rintro w' ⟨s0,s1,s2,s3⟩
          go_simp
          with_reducible rfl
         rotate_left
         ·simp only [Act.put,List.setIfInBounds_toArray,List.set_cons_zero,List.set_cons_succ,i64_w,i32_w]
          rfl
         refine pure_ (i:=3) (N:=some 9) (v:=?_) (a':=?_) #[true,true,true,true,false,false,true,false,false,false,false] rfl rfl (any_of HT_.out (by kernel_rfl)) (fun _ _ _ h=>h) (Or.inl ⟨by rfl,?_⟩) ?_ ?_
         rotate_left
         ·intro w'
          go_simp
          with_reducible rfl
         rotate_left
         ·simp only [Act.put,List.setIfInBounds_toArray,List.set_cons_zero,List.set_cons_succ,i64_w,i32_w]
          rfl
         refine take_ (i:=4) (N:=some 10) (v:=?_) (a':=?_) #[true,true,true,true,true,false,true,false,false,false,false] rfl rfl (take_ofW HT_.out HW_.out (by kernel_rfl)) (fun _ _ _ h=>h) (Or.inl ⟨by rfl,?_⟩) hHeld ?_ ?_
         rotate_left
         ·rintro w' ⟨s0,s1,s2,s3⟩
          go_simp
          with_reducible rfl
         rotate_left
         ·simp only [Act.put,List.setIfInBounds_toArray,List.set_cons_zero,List.set_cons_succ,i64_w,i32_w]
          rfl
         refine pure_ (i:=5) (N:=some 11) (v:=?_) (a':=?_) #[true,true,true,true,true,true,true,false,false,false,false] rfl rfl (any_of HT_.out (by kernel_rfl)) (fun _ _ _ h=>h) (Or.inl ⟨by rfl,?_⟩) ?_ ?_
         rotate_left
         ·intro w'
          go_simp
          with_reducible rfl
         rotate_left
         ·simp only [Act.put,List.setIfInBounds_toArray,List.set_cons_zero,List.set_cons_succ,i64_w,i32_w]
          rfl
         refine take_ (i:=7) (N:=some 13) (v:=?_) (a':=?_) #[true,true,true,true,true,true,true,true,false,false,false] rfl rfl (take_ofW HT_.out HW_.out (by kernel_rfl)) (fun _ _ _ h=>h) (Or.inl ⟨by rfl,?_⟩) hHeld ?_ ?_
         rotate_left
         ·rintro w' ⟨s0,s1,s2,s3⟩
          go_simp
          with_reducible rfl
         rotate_left
         ·simp only [Act.put,List.setIfInBounds_toArray,List.set_cons_zero,List.set_cons_succ,i64_w,i32_w]
          rfl
         refine one_ (i:=8) (N:=some 14) #[true,true,true,true,true,true,true,true,true,false,false] rfl rfl (one_of HT_.out (by kernel_rfl)) (by decide) (fun K hK=>?_)
         refine goes_ Tryd.func44 (by kernel_rfl) rfl #[.int .i64 a0_1] (by rfl) rfl rfl (by (try simp only [List.map_toArray,List.map_cons,List.map_nil]);first|done|rfl|(simp only [List.length_drop,List.length_take];rfl)) ?_
         with_reducible refine (spec_l4decimal.calls a0_1 t124 _ A6.out).mono ?_
         rintro e w16 ⟨rfl,hb⟩
         have HS3_:=(hb.cell (World.block_lt_of_cell? _ _ (hHeld.2.2.2))).trans (hHeld.2.2.2)
         refine ⟨_,rfl,?_⟩
         have n0_:=Aside0.mk (Kd.R_below (by (with_reducible repeat (first|apply Kd.R_alloc|apply Kd.R_drewN|apply Kd.R_drew));exact HO122.out) hb)
         have n1_:=Aside0.mk (blk_below (g:=gb119) (o:=.cells #[.int .i64 a0_0,.int .i64 a0_1,.int .i64 a0_2] 52 (0,0)) (by (with_reducible repeat (first|refine blk_drewN ?_ _|refine blk_drew ?_|refine blk_alloc ?_ _));exact BK119.out) hb)
         have n2_:=Aside0.mk (below_step (by repeat (first|(with_reducible first|exact HB.out|apply below_alloc|apply pw_below_drewN|apply below_drew1|refine below_set ?_ GE119.out)|exact HB.out)) hb)
         clear HO122
         clear BK119
         clear HB
         have HO122:=n0_
         have BK119:=n1_
         have HB:=n2_
         clear n0_ n1_ n2_
         (try clear hb)
         (try clear hb2)
         (try clear hk)
         (try clear hi)
         refine hK.out _ _ ⟨(blk_cell BK119.out 0).trans rfl,(blk_cell BK119.out 1).trans rfl,(blk_cell BK119.out 2).trans rfl,HS3_⟩ (fun hHeld=>?_)
         clear hK K
         refine norm_ (a':=?_) ?_ ?_
         rotate_left
         ·show Act.put _ (some 14) _=_
          simp only [Act.put,List.setIfInBounds_toArray,List.set_cons_zero,List.set_cons_succ,i64_w,i32_w]
          rfl
         refine pure_ (i:=9) (N:=some 15) (v:=?_) (a':=?_) #[true,true,true,true,true,true,true,true,true,true,false] rfl rfl (any_of HT_.out (by kernel_rfl)) (fun _ _ _ h=>h) (Or.inl ⟨by rfl,?_⟩) ?_ ?_
         rotate_left
         ·intro w'
          go_simp
          with_reducible rfl
         rotate_left
         ·simp only [Act.put,List.setIfInBounds_toArray,List.set_cons_zero,List.set_cons_succ,i64_w,i32_w]
          rfl
         refine pure_ (i:=10) (N:=some 4) (v:=?_) (a':=?_) #[true,true,true,true,true,true,true,true,true,true,true] rfl rfl (any_of HT_.out (by kernel_rfl)) (fun _ _ _ h=>h) (Or.inl ⟨by rfl,?_⟩) ?_ ?_
         rotate_left
         ·intro w'
          go_simp
          with_reducible rfl
         rotate_left
         ·simp only [Act.put,List.setIfInBounds_toArray,List.set_cons_zero,List.set_cons_succ,i64_w,i32_w]
          rfl
         refine done_ (done_of HT_.out (by kernel_rfl)) ?_
         have hcz17_0:w16.cell? ⟨gb119,0,none⟩=some (.int .i64 a0_0):=(blk_cell BK119.out 0).trans rfl
         have hcz17_1:w16.cell? ⟨gb119,1,none⟩=some (.int .i64 a0_1):=(blk_cell BK119.out 1).trans rfl
         have hcz17_2:w16.cell? ⟨gb119,2,none⟩=some (.int .i64 a0_2):=(blk_cell BK119.out 2).trans rfl
         have hfz17_0:=blk_frozen BK119.out 0
         have hfz17_1:=blk_frozen BK119.out 1
         have hfz17_2:=blk_frozen BK119.out 2
         try go_wp2
         go_ret
         exact ⟨by first|rfl|(simp [errW_none,errW_some] <;> rfl)|(simp [*,errW_none,errW_some] <;> rfl),by repeat (first|(with_reducible first|exact HB.out|apply below_alloc|apply pw_below_drewN|apply below_drew1|refine below_set ?_ GE119.out)|exact HB.out)⟩
        rw [if_neg c11] at H
        exact absurd H (by simp)
       rw [if_neg c10] at H
       have c10b0:decide (a0_2<0)=false:=decide_eq_false c10
       clear c10
       obtain rfl:=Option.some.inj H
       go_enter Tryd.func27,Tryd.ntmps27
       try go_wp2_with (first|((with_reducible refine gate_dst (N:=1) rfl ?_);refine box_event ?hg (N:=1) ?hd (cs:=#[.int .i64 a0_0,.int .i64 a0_1,.int .i64 a0_2]) (t:=52) ?hr ?_;(case hd=>rfl);(case hg=>rfl);(case hr=>first|(go_simp;done)|(go_simp;rfl));intro gb119 hg w18 hbox hb;have n0_:=Aside0.mk (below_step (by repeat (first|(with_reducible first|exact HB.out|apply below_alloc|apply pw_below_drewN|apply below_drew1)|exact HB.out)) hb);have n1_:=Aside0.mk (hbox);have n2_:=Aside0.mk ((by rw [hg];exact (below_size (by repeat (first|(with_reducible first|exact HB.out|apply below_alloc|apply pw_below_drewN|apply below_drew1)|exact HB.out))):w.heap.size≤gb119));have n3_:=Aside0.mk ((by rw [hg];exact (below_size (by repeat (first|(with_reducible first|exact HB.out|apply below_alloc|apply pw_below_drewN|apply below_drew1)|exact HB.out))):w.heap.size≤gb119));clear HB;have HB:=n0_;have BK119:=n1_;have GW119:=n2_;have GE119:=n3_;clear n0_ n1_ n2_ n3_;clear hb hbox hg)|((with_reducible refine gate_callee (f:=52) rfl ?_);refine goesL_ (some 5) rfl rfl Tryd.func52 (by kernel_rfl) rfl #[] rfl (by (try simp only [List.map_toArray,List.map_cons,List.map_nil]);first|done|rfl|(simp only [List.length_drop,List.length_take];rfl)) ?_;(with_reducible refine (spec_l4words.calls  t120 _ A2.out).mono ?_);rintro e w19 ⟨v121,rfl,ho0,hb⟩;refine ⟨_,rfl,?_⟩;have n0_:=Aside0.mk (Kd.R_lower ho0 (below_size (by repeat (first|(with_reducible first|exact HB.out|apply below_alloc|apply pw_below_drewN|apply below_drew1|refine below_set ?_ GE119.out)|exact HB.out))));have n1_:=Aside0.mk (blk_below (g:=gb119) (o:=.cells #[.int .i64 a0_0,.int .i64 a0_1,.int .i64 a0_2] 52 (0,0)) (by (with_reducible repeat (first|refine blk_drewN ?_ _|refine blk_drew ?_|refine blk_alloc ?_ _));exact BK119.out) hb);have n2_:=Aside0.mk (below_step (by repeat (first|(with_reducible first|exact HB.out|apply below_alloc|apply pw_below_drewN|apply below_drew1|refine below_set ?_ GE119.out)|exact HB.out)) hb);clear BK119;clear HB;have HO122:=n0_;have BK119:=n1_;have HB:=n2_;clear n0_ n1_ n2_;(try clear hb);(try clear hb2);(try clear hk);(try clear hi);(try clear ho0)))
       have n0_:=Aside0.mk (Kd.R_drew HO122.out)
       have n1_:=Aside0.mk (blk_drew BK119.out)
       have n2_:=Aside0.mk (below_drew1 HB.out)
       clear HO122
       clear BK119
       clear HB
       have HO122:=n0_
       have BK119:=n1_
       have HB:=n2_
       clear n0_ n1_ n2_
       obtain ⟨Ao21,co21,eo21⟩:=Kd.R_slice HO122.out
       (first|subst eo21|(injection eo21 with f1_ f2_ f3_;have f4_:=f1_.symm;have f5_:=f3_.symm;clear f1_ f2_ f3_;subst f4_;subst f5_))
       have p123:0≤(a0_0:Int):=of_decide_eq_true (by first|(with_reducible assumption)|assumption)
       have q123:a0_0<(t120.length:Int):=of_decide_eq_true (by first|(with_reducible assumption)|assumption)
       obtain ⟨ad123,e123,hx123_0⟩:=Kd.at_string (Kd.R_reads' HO122.out).2.2 a0_0 p123 q123
       cases e123
       replace p123:=eq_true p123
       replace q123:=eq_true q123
       refine start_ (n:=11) (S:=fun w'=>w'.cell? ⟨gb119,0,none⟩=some (.int .i64 a0_0)∧w'.cell? ⟨gb119,1,none⟩=some (.int .i64 a0_1)∧w'.cell? ⟨gb119,2,none⟩=some (.int .i64 a0_2)∧w'.cell? (ad123.add (a0_0).toNat)=some (.string (rdOf ByteArray.empty t120 a0_0))) (ds:=[]) #[false,false,false,false,false,false,false,false,false,false,false] (by kernel_rfl) rfl rfl ⟨(blk_cell BK119.out 0).trans rfl,(blk_cell BK119.out 1).trans rfl,(blk_cell BK119.out 2).trans rfl,hx123_0⟩ (fun hHeld=>?_);refine with_tabW spec_l4line.tab2 spec_l4line.bits2 (fun HT_ HW_=>?_)
       generalize w19.drew=w20 at HO122 BK119 HB hx123_0 hHeld ⊢
       refine pure_ (i:=0) (N:=some 6) (v:=?_) (a':=?_) #[true,false,false,false,false,false,false,false,false,false,false] rfl rfl (any_of HT_.out (by kernel_rfl)) (fun _ _ _ h=>h) (Or.inl ⟨by rfl,?_⟩) ?_ ?_
       rotate_left
       ·intro w'
        go_simp
        with_reducible rfl
       rotate_left
       ·simp only [Act.put,List.setIfInBounds_toArray,List.set_cons_zero,List.set_cons_succ,i64_w,i32_w]
        rfl
       refine pure_ (i:=1) (N:=some 7) (v:=?_) (a':=?_) #[true,true,false,false,false,false,false,false,false,false,false] rfl rfl (any_of HT_.out (by kernel_rfl)) (fun _ _ _ h=>h) (Or.inl ⟨by rfl,?_⟩) ?_ ?_
       rotate_left
       ·intro w'
        go_simp
        with_reducible rfl
       rotate_left
       ·simp only [Act.put,List.setIfInBounds_toArray,List.set_cons_zero,List.set_cons_succ,i64_w,i32_w]
        rfl
       refine pure_ (i:=6) (N:=some 12) (v:=?_) (a':=?_) #[true,true,false,false,false,false,true,false,false,false,false] rfl rfl (any_of HT_.out (by kernel_rfl)) (fun _ _ _ h=>h) (Or.inl ⟨by rfl,?_⟩) ?_ ?_
       rotate_left
       ·intro w'
        go_simp
        with_reducible rfl
       rotate_left
       ·simp only [Act.put,List.setIfInBounds_toArray,List.set_cons_zero,List.set_cons_succ,i64_w,i32_w]
        rfl
       refine take_ (i:=2) (N:=some 8) (v:=?_) (a':=?_) #[true,true,true,false,false,false,true,false,false,false,false] rfl rfl (take_ofW HT_.out HW_.out (by kernel_rfl)) (fun _ _ _ h=>h) (Or.inl ⟨by rfl,?_⟩) hHeld ?_ ?_
       rotate_left
       ·rintro w' ⟨s0,s1,s2,s3⟩
        go_simp
        with_reducible rfl
       rotate_left
       ·simp only [Act.put,List.setIfInBounds_toArray,List.set_cons_zero,List.set_cons_succ,i64_w,i32_w]
        rfl
       refine pure_ (i:=3) (N:=some 9) (v:=?_) (a':=?_) #[true,true,true,true,false,false,true,false,false,false,false] rfl rfl (any_of HT_.out (by kernel_rfl)) (fun _ _ _ h=>h) (Or.inl ⟨by rfl,?_⟩) ?_ ?_
       rotate_left
       ·intro w'
        go_simp
        with_reducible rfl
       rotate_left
       ·simp only [Act.put,List.setIfInBounds_toArray,List.set_cons_zero,List.set_cons_succ,i64_w,i32_w]
        rfl
       refine take_ (i:=4) (N:=some 10) (v:=?_) (a':=?_) #[true,true,true,true,true,false,true,false,false,false,false] rfl rfl (take_ofW HT_.out HW_.out (by kernel_rfl)) (fun _ _ _ h=>h) (Or.inl ⟨by rfl,?_⟩) hHeld ?_ ?_
       rotate_left
       ·rintro w' ⟨s0,s1,s2,s3⟩
        go_simp
        with_reducible rfl
       rotate_left
       ·simp only [Act.put,List.setIfInBounds_toArray,List.set_cons_zero,List.set_cons_succ,i64_w,i32_w]
        rfl
       refine pure_ (i:=5) (N:=some 11) (v:=?_) (a':=?_) #[true,true,true,true,true,true,true,false,false,false,false] rfl rfl (any_of HT_.out (by kernel_rfl)) (fun _ _ _ h=>h) (Or.inl ⟨by rfl,?_⟩) ?_ ?_
       rotate_left
       ·intro w'
        go_simp
        with_reducible rfl
       rotate_left
       ·simp only [Act.put,List.setIfInBounds_toArray,List.set_cons_zero,List.set_cons_succ,i64_w,i32_w]
        rfl
       refine take_ (i:=7) (N:=some 13) (v:=?_) (a':=?_) #[true,true,true,true,true,true,true,true,false,false,false] rfl rfl (take_ofW HT_.out HW_.out (by kernel_rfl)) (fun _ _ _ h=>h) (Or.inl ⟨by rfl,?_⟩) hHeld ?_ ?_
       rotate_left
       ·rintro w' ⟨s0,s1,s2,s3⟩
        go_simp
        with_reducible rfl
       rotate_left
       ·simp only [Act.put,List.setIfInBounds_toArray,List.set_cons_zero,List.set_cons_succ,i64_w,i32_w]
        rfl
       refine one_ (i:=8) (N:=some 14) #[true,true,true,true,true,true,true,true,true,false,false] rfl rfl (one_of HT_.out (by kernel_rfl)) (by decide) (fun K hK=>?_)
       refine goes_ Tryd.func44 (by kernel_rfl) rfl #[.int .i64 a0_1] (by rfl) rfl rfl (by (try simp only [List.map_toArray,List.map_cons,List.map_nil]);first|done|rfl|(simp only [List.length_drop,List.length_take];rfl)) ?_
       with_reducible refine (spec_l4decimal.calls a0_1 t124 _ A6.out).mono ?_
       rintro e w22 ⟨rfl,hb⟩
       have HS3_:=(hb.cell (World.block_lt_of_cell? _ _ (hHeld.2.2.2))).trans (hHeld.2.2.2)
       refine ⟨_,rfl,?_⟩
       have n0_:=Aside0.mk (Kd.R_below (by (with_reducible repeat (first|apply Kd.R_alloc|apply Kd.R_drewN|apply Kd.R_drew));exact HO122.out) hb)
       have n1_:=Aside0.mk (blk_below (g:=gb119) (o:=.cells #[.int .i64 a0_0,.int .i64 a0_1,.int .i64 a0_2] 52 (0,0)) (by (with_reducible repeat (first|refine blk_drewN ?_ _|refine blk_drew ?_|refine blk_alloc ?_ _));exact BK119.out) hb)
       have n2_:=Aside0.mk (below_step (by repeat (first|(with_reducible first|exact HB.out|apply below_alloc|apply pw_below_drewN|apply below_drew1|refine below_set ?_ GE119.out)|exact HB.out)) hb)
       clear HO122
       clear BK119
       clear HB
       have HO122:=n0_
       have BK119:=n1_
       have HB:=n2_
       clear n0_ n1_ n2_
       (try clear hb)
       (try clear hb2)
       (try clear hk)
       (try clear hi)
       refine hK.out _ _ ⟨(blk_cell BK119.out 0).trans rfl,(blk_cell BK119.out 1).trans rfl,(blk_cell BK119.out 2).trans rfl,HS3_⟩ (fun hHeld=>?_)
       clear hK K
       refine norm_ (a':=?_) ?_ ?_
       rotate_left
       ·show Act.put _ (some 14) _=_
        simp only [Act.put,List.setIfInBounds_toArray,List.set_cons_zero,List.set_cons_succ,i64_w,i32_w]
        rfl
       refine pure_ (i:=9) (N:=some 15) (v:=?_) (a':=?_) #[true,true,true,true,true,true,true,true,true,true,false] rfl rfl (any_of HT_.out (by kernel_rfl)) (fun _ _ _ h=>h) (Or.inl ⟨by rfl,?_⟩) ?_ ?_
       rotate_left
       ·intro w'
        go_simp
        with_reducible rfl
       rotate_left
       ·simp only [Act.put,List.setIfInBounds_toArray,List.set_cons_zero,List.set_cons_succ,i64_w,i32_w]
        rfl
       refine pure_ (i:=10) (N:=some 4) (v:=?_) (a':=?_) #[true,true,true,true,true,true,true,true,true,true,true] rfl rfl (any_of HT_.out (by kernel_rfl)) (fun _ _ _ h=>h) (Or.inl ⟨by rfl,?_⟩) ?_ ?_
       rotate_left
       ·intro w'
        go_simp
        with_reducible rfl
       rotate_left
       ·simp only [Act.put,List.setIfInBounds_toArray,List.set_cons_zero,List.set_cons_succ,i64_w,i32_w]
        rfl
       refine done_ (done_of HT_.out (by kernel_rfl)) ?_
       have hcz23_0:w22.cell? ⟨gb119,0,none⟩=some (.int .i64 a0_0):=(blk_cell BK119.out 0).trans rfl
       have hcz23_1:w22.cell? ⟨gb119,1,none⟩=some (.int .i64 a0_1):=(blk_cell BK119.out 1).trans rfl
       have hcz23_2:w22.cell? ⟨gb119,2,none⟩=some (.int .i64 a0_2):=(blk_cell BK119.out 2).trans rfl
       have hfz23_0:=blk_frozen BK119.out 0
       have hfz23_1:=blk_frozen BK119.out 1
       have hfz23_2:=blk_frozen BK119.out 2
       try go_wp2
       go_ret
       exact ⟨by first|rfl|(simp [errW_none,errW_some] <;> rfl)|(simp [*,errW_none,errW_some] <;> rfl),by repeat (first|(with_reducible first|exact HB.out|apply below_alloc|apply pw_below_drewN|apply below_drew1|refine below_set ?_ GE119.out)|exact HB.out)⟩
      rw [if_neg c9] at H
      exact absurd H (by simp)
     rw [if_neg c8] at H
     have c8b0:decide (0<a0_2)=false:=decide_eq_false c8
     clear c8
     by_cases c24:a0_2<0
     ·rw [if_pos c24] at H
      have c24b0:decide (a0_2<0)=true:=decide_eq_true c24
      clear c24
      by_cases c25:(((rdOf ByteArray.empty t120 a0_0) ++ (⟨#[32]⟩:ByteArray)) ++ t124).size+2≤9223372036854775807
      ·rw [if_pos c25] at H
       have c25b0:=eq_true c25
       have c25b1:decide ((((rdOf ByteArray.empty t120 a0_0) ++ (⟨#[32]⟩:ByteArray)) ++ t124).size+2≤9223372036854775807)=true:=decide_eq_true c25
       try have c25b2:(9223372036854775807<(((rdOf ByteArray.empty t120 a0_0) ++ (⟨#[32]⟩:ByteArray)) ++ t124).size+2)=False:=eq_false (Nat.not_lt.2 c25)
       have c25n0n_1:(rdOf ByteArray.empty t120 a0_0).size+1+t124.size+2≤9223372036854775807:=by have:=c25;simp only [ByteArray.size_append] at this;exact this
       have c25n0n_2:(9223372036854775807<(rdOf ByteArray.empty t120 a0_0).size+1+t124.size+2)=False:=eq_false (Nat.not_lt.2 c25n0n_1)
       have c25n0n_3:((rdOf ByteArray.empty t120 a0_0).size+1+t124.size+2≤9223372036854775807)=True:=eq_true c25n0n_1
       obtain rfl:=Option.some.inj H
       go_enter Tryd.func27,Tryd.ntmps27
       try go_wp2_with (first|((with_reducible refine gate_dst (N:=1) rfl ?_);refine box_event ?hg (N:=1) ?hd (cs:=#[.int .i64 a0_0,.int .i64 a0_1,.int .i64 a0_2]) (t:=52) ?hr ?_;(case hd=>rfl);(case hg=>rfl);(case hr=>first|(go_simp;done)|(go_simp;rfl));intro gb119 hg w26 hbox hb;have n0_:=Aside0.mk (below_step (by repeat (first|(with_reducible first|exact HB.out|apply below_alloc|apply pw_below_drewN|apply below_drew1)|exact HB.out)) hb);have n1_:=Aside0.mk (hbox);have n2_:=Aside0.mk ((by rw [hg];exact (below_size (by repeat (first|(with_reducible first|exact HB.out|apply below_alloc|apply pw_below_drewN|apply below_drew1)|exact HB.out))):w.heap.size≤gb119));have n3_:=Aside0.mk ((by rw [hg];exact (below_size (by repeat (first|(with_reducible first|exact HB.out|apply below_alloc|apply pw_below_drewN|apply below_drew1)|exact HB.out))):w.heap.size≤gb119));clear HB;have HB:=n0_;have BK119:=n1_;have GW119:=n2_;have GE119:=n3_;clear n0_ n1_ n2_ n3_;clear hb hbox hg)|((with_reducible refine gate_callee (f:=52) rfl ?_);refine goesL_ (some 5) rfl rfl Tryd.func52 (by kernel_rfl) rfl #[] rfl (by (try simp only [List.map_toArray,List.map_cons,List.map_nil]);first|done|rfl|(simp only [List.length_drop,List.length_take];rfl)) ?_;(with_reducible refine (spec_l4words.calls  t120 _ A2.out).mono ?_);rintro e w27 ⟨v121,rfl,ho0,hb⟩;refine ⟨_,rfl,?_⟩;have n0_:=Aside0.mk (Kd.R_lower ho0 (below_size (by repeat (first|(with_reducible first|exact HB.out|apply below_alloc|apply pw_below_drewN|apply below_drew1|refine below_set ?_ GE119.out)|exact HB.out))));have n1_:=Aside0.mk (blk_below (g:=gb119) (o:=.cells #[.int .i64 a0_0,.int .i64 a0_1,.int .i64 a0_2] 52 (0,0)) (by (with_reducible repeat (first|refine blk_drewN ?_ _|refine blk_drew ?_|refine blk_alloc ?_ _));exact BK119.out) hb);have n2_:=Aside0.mk (below_step (by repeat (first|(with_reducible first|exact HB.out|apply below_alloc|apply pw_below_drewN|apply below_drew1|refine below_set ?_ GE119.out)|exact HB.out)) hb);clear BK119;clear HB;have HO122:=n0_;have BK119:=n1_;have HB:=n2_;clear n0_ n1_ n2_;(try clear hb);(try clear hb2);(try clear hk);(try clear hi);(try clear ho0)))
       have n0_:=Aside0.mk (Kd.R_drew HO122.out)
       have n1_:=Aside0.mk (blk_drew BK119.out)
       have n2_:=Aside0.mk (below_drew1 HB.out)
       clear HO122
       clear BK119
       clear HB
       have HO122:=n0_
       have BK119:=n1_
       have HB:=n2_
       clear n0_ n1_ n2_
       obtain ⟨Ao29,co29,eo29⟩:=Kd.R_slice HO122.out
       (first|subst eo29|(injection eo29 with f1_ f2_ f3_;have f4_:=f1_.symm;have f5_:=f3_.symm;clear f1_ f2_ f3_;subst f4_;subst f5_))
       have p123:0≤(a0_0:Int):=of_decide_eq_true (by first|(with_reducible assumption)|assumption)
       have q123:a0_0<(t120.length:Int):=of_decide_eq_true (by first|(with_reducible assumption)|assumption)
       obtain ⟨ad123,e123,hx123_0⟩:=Kd.at_string (Kd.R_reads' HO122.out).2.2 a0_0 p123 q123
       cases e123
       replace p123:=eq_true p123
       replace q123:=eq_true q123
       refine start_ (n:=11) (S:=fun w'=>w'.cell? ⟨gb119,0,none⟩=some (.int .i64 a0_0)∧w'.cell? ⟨gb119,1,none⟩=some (.int .i64 a0_1)∧w'.cell? ⟨gb119,2,none⟩=some (.int .i64 a0_2)∧w'.cell? (ad123.add (a0_0).toNat)=some (.string (rdOf ByteArray.empty t120 a0_0))) (ds:=[]) #[false,false,false,false,false,false,false,false,false,false,false] (by kernel_rfl) rfl rfl ⟨(blk_cell BK119.out 0).trans rfl,(blk_cell BK119.out 1).trans rfl,(blk_cell BK119.out 2).trans rfl,hx123_0⟩ (fun hHeld=>?_);refine with_tabW spec_l4line.tab2 spec_l4line.bits2 (fun HT_ HW_=>?_)
       generalize w27.drew=w28 at HO122 BK119 HB hx123_0 hHeld ⊢
       refine pure_ (i:=0) (N:=some 6) (v:=?_) (a':=?_) #[true,false,false,false,false,false,false,false,false,false,false] rfl rfl (any_of HT_.out (by kernel_rfl)) (fun _ _ _ h=>h) (Or.inl ⟨by rfl,?_⟩) ?_ ?_
       rotate_left
       ·intro w'
        go_simp
        with_reducible rfl
       rotate_left
       ·simp only [Act.put,List.setIfInBounds_toArray,List.set_cons_zero,List.set_cons_succ,i64_w,i32_w]
        rfl
       refine pure_ (i:=1) (N:=some 7) (v:=?_) (a':=?_) #[true,true,false,false,false,false,false,false,false,false,false] rfl rfl (any_of HT_.out (by kernel_rfl)) (fun _ _ _ h=>h) (Or.inl ⟨by rfl,?_⟩) ?_ ?_
       rotate_left
       ·intro w'
        go_simp
        with_reducible rfl
       rotate_left
       ·simp only [Act.put,List.setIfInBounds_toArray,List.set_cons_zero,List.set_cons_succ,i64_w,i32_w]
        rfl
       refine pure_ (i:=6) (N:=some 12) (v:=?_) (a':=?_) #[true,true,false,false,false,false,true,false,false,false,false] rfl rfl (any_of HT_.out (by kernel_rfl)) (fun _ _ _ h=>h) (Or.inl ⟨by rfl,?_⟩) ?_ ?_
       rotate_left
       ·intro w'
        go_simp
        with_reducible rfl
       rotate_left
       ·simp only [Act.put,List.setIfInBounds_toArray,List.set_cons_zero,List.set_cons_succ,i64_w,i32_w]
        rfl
       refine take_ (i:=2) (N:=some 8) (v:=?_) (a':=?_) #[true,true,true,false,false,false,true,false,false,false,false] rfl rfl (take_ofW HT_.out HW_.out (by kernel_rfl)) (fun _ _ _ h=>h) (Or.inl ⟨by rfl,?_⟩) hHeld ?_ ?_
       rotate_left
       ·rintro w' ⟨s0,s1,s2,s3⟩
        go_simp
        with_reducible rfl
       rotate_left
       ·simp only [Act.put,List.setIfInBounds_toArray,List.set_cons_zero,List.set_cons_succ,i64_w,i32_w]
        rfl
       refine pure_ (i:=3) (N:=some 9) (v:=?_) (a':=?_) #[true,true,true,true,false,false,true,false,false,false,false] rfl rfl (any_of HT_.out (by kernel_rfl)) (fun _ _ _ h=>h) (Or.inl ⟨by rfl,?_⟩) ?_ ?_
       rotate_left
       ·intro w'
        go_simp
        with_reducible rfl
       rotate_left
       ·simp only [Act.put,List.setIfInBounds_toArray,List.set_cons_zero,List.set_cons_succ,i64_w,i32_w]
        rfl
       refine take_ (i:=4) (N:=some 10) (v:=?_) (a':=?_) #[true,true,true,true,true,false,true,false,false,false,false] rfl rfl (take_ofW HT_.out HW_.out (by kernel_rfl)) (fun _ _ _ h=>h) (Or.inl ⟨by rfl,?_⟩) hHeld ?_ ?_
       rotate_left
       ·rintro w' ⟨s0,s1,s2,s3⟩
        go_simp
        with_reducible rfl
       rotate_left
       ·simp only [Act.put,List.setIfInBounds_toArray,List.set_cons_zero,List.set_cons_succ,i64_w,i32_w]
        rfl
       refine pure_ (i:=5) (N:=some 11) (v:=?_) (a':=?_) #[true,true,true,true,true,true,true,false,false,false,false] rfl rfl (any_of HT_.out (by kernel_rfl)) (fun _ _ _ h=>h) (Or.inl ⟨by rfl,?_⟩) ?_ ?_
       rotate_left
       ·intro w'
        go_simp
        with_reducible rfl
       rotate_left
       ·simp only [Act.put,List.setIfInBounds_toArray,List.set_cons_zero,List.set_cons_succ,i64_w,i32_w]
        rfl
       refine take_ (i:=7) (N:=some 13) (v:=?_) (a':=?_) #[true,true,true,true,true,true,true,true,false,false,false] rfl rfl (take_ofW HT_.out HW_.out (by kernel_rfl)) (fun _ _ _ h=>h) (Or.inl ⟨by rfl,?_⟩) hHeld ?_ ?_
       rotate_left
       ·rintro w' ⟨s0,s1,s2,s3⟩
        go_simp
        with_reducible rfl
       rotate_left
       ·simp only [Act.put,List.setIfInBounds_toArray,List.set_cons_zero,List.set_cons_succ,i64_w,i32_w]
        rfl
       refine one_ (i:=8) (N:=some 14) #[true,true,true,true,true,true,true,true,true,false,false] rfl rfl (one_of HT_.out (by kernel_rfl)) (by decide) (fun K hK=>?_)
       refine goes_ Tryd.func44 (by kernel_rfl) rfl #[.int .i64 a0_1] (by rfl) rfl rfl (by (try simp only [List.map_toArray,List.map_cons,List.map_nil]);first|done|rfl|(simp only [List.length_drop,List.length_take];rfl)) ?_
       with_reducible refine (spec_l4decimal.calls a0_1 t124 _ A6.out).mono ?_
       rintro e w30 ⟨rfl,hb⟩
       have HS3_:=(hb.cell (World.block_lt_of_cell? _ _ (hHeld.2.2.2))).trans (hHeld.2.2.2)
       refine ⟨_,rfl,?_⟩
       have n0_:=Aside0.mk (Kd.R_below (by (with_reducible repeat (first|apply Kd.R_alloc|apply Kd.R_drewN|apply Kd.R_drew));exact HO122.out) hb)
       have n1_:=Aside0.mk (blk_below (g:=gb119) (o:=.cells #[.int .i64 a0_0,.int .i64 a0_1,.int .i64 a0_2] 52 (0,0)) (by (with_reducible repeat (first|refine blk_drewN ?_ _|refine blk_drew ?_|refine blk_alloc ?_ _));exact BK119.out) hb)
       have n2_:=Aside0.mk (below_step (by repeat (first|(with_reducible first|exact HB.out|apply below_alloc|apply pw_below_drewN|apply below_drew1|refine below_set ?_ GE119.out)|exact HB.out)) hb)
       clear HO122
       clear BK119
       clear HB
       have HO122:=n0_
       have BK119:=n1_
       have HB:=n2_
       clear n0_ n1_ n2_
       (try clear hb)
       (try clear hb2)
       (try clear hk)
       (try clear hi)
       refine hK.out _ _ ⟨(blk_cell BK119.out 0).trans rfl,(blk_cell BK119.out 1).trans rfl,(blk_cell BK119.out 2).trans rfl,HS3_⟩ (fun hHeld=>?_)
       clear hK K
       refine norm_ (a':=?_) ?_ ?_
       rotate_left
       ·show Act.put _ (some 14) _=_
        simp only [Act.put,List.setIfInBounds_toArray,List.set_cons_zero,List.set_cons_succ,i64_w,i32_w]
        rfl
       refine pure_ (i:=9) (N:=some 15) (v:=?_) (a':=?_) #[true,true,true,true,true,true,true,true,true,true,false] rfl rfl (any_of HT_.out (by kernel_rfl)) (fun _ _ _ h=>h) (Or.inl ⟨by rfl,?_⟩) ?_ ?_
       rotate_left
       ·intro w'
        go_simp
        with_reducible rfl
       rotate_left
       ·simp only [Act.put,List.setIfInBounds_toArray,List.set_cons_zero,List.set_cons_succ,i64_w,i32_w]
        rfl
       refine pure_ (i:=10) (N:=some 4) (v:=?_) (a':=?_) #[true,true,true,true,true,true,true,true,true,true,true] rfl rfl (any_of HT_.out (by kernel_rfl)) (fun _ _ _ h=>h) (Or.inl ⟨by rfl,?_⟩) ?_ ?_
       rotate_left
       ·intro w'
        go_simp
        with_reducible rfl
       rotate_left
       ·simp only [Act.put,List.setIfInBounds_toArray,List.set_cons_zero,List.set_cons_succ,i64_w,i32_w]
        rfl
       refine done_ (done_of HT_.out (by kernel_rfl)) ?_
       have hcz31_0:w30.cell? ⟨gb119,0,none⟩=some (.int .i64 a0_0):=(blk_cell BK119.out 0).trans rfl
       have hcz31_1:w30.cell? ⟨gb119,1,none⟩=some (.int .i64 a0_1):=(blk_cell BK119.out 1).trans rfl
       have hcz31_2:w30.cell? ⟨gb119,2,none⟩=some (.int .i64 a0_2):=(blk_cell BK119.out 2).trans rfl
       have hfz31_0:=blk_frozen BK119.out 0
       have hfz31_1:=blk_frozen BK119.out 1
       have hfz31_2:=blk_frozen BK119.out 2
       try go_wp2
       go_ret
       exact ⟨by first|rfl|(simp [errW_none,errW_some] <;> rfl)|(simp [*,errW_none,errW_some] <;> rfl),by repeat (first|(with_reducible first|exact HB.out|apply below_alloc|apply pw_below_drewN|apply below_drew1|refine below_set ?_ GE119.out)|exact HB.out)⟩
      rw [if_neg c25] at H
      exact absurd H (by simp)
     rw [if_neg c24] at H
     have c24b0:decide (a0_2<0)=false:=decide_eq_false c24
     clear c24
     obtain rfl:=Option.some.inj H
     go_enter Tryd.func27,Tryd.ntmps27
     try go_wp2_with (first|((with_reducible refine gate_dst (N:=1) rfl ?_);refine box_event ?hg (N:=1) ?hd (cs:=#[.int .i64 a0_0,.int .i64 a0_1,.int .i64 a0_2]) (t:=52) ?hr ?_;(case hd=>rfl);(case hg=>rfl);(case hr=>first|(go_simp;done)|(go_simp;rfl));intro gb119 hg w32 hbox hb;have n0_:=Aside0.mk (below_step (by repeat (first|(with_reducible first|exact HB.out|apply below_alloc|apply pw_below_drewN|apply below_drew1)|exact HB.out)) hb);have n1_:=Aside0.mk (hbox);have n2_:=Aside0.mk ((by rw [hg];exact (below_size (by repeat (first|(with_reducible first|exact HB.out|apply below_alloc|apply pw_below_drewN|apply below_drew1)|exact HB.out))):w.heap.size≤gb119));have n3_:=Aside0.mk ((by rw [hg];exact (below_size (by repeat (first|(with_reducible first|exact HB.out|apply below_alloc|apply pw_below_drewN|apply below_drew1)|exact HB.out))):w.heap.size≤gb119));clear HB;have HB:=n0_;have BK119:=n1_;have GW119:=n2_;have GE119:=n3_;clear n0_ n1_ n2_ n3_;clear hb hbox hg)|((with_reducible refine gate_callee (f:=52) rfl ?_);refine goesL_ (some 5) rfl rfl Tryd.func52 (by kernel_rfl) rfl #[] rfl (by (try simp only [List.map_toArray,List.map_cons,List.map_nil]);first|done|rfl|(simp only [List.length_drop,List.length_take];rfl)) ?_;(with_reducible refine (spec_l4words.calls  t120 _ A2.out).mono ?_);rintro e w33 ⟨v121,rfl,ho0,hb⟩;refine ⟨_,rfl,?_⟩;have n0_:=Aside0.mk (Kd.R_lower ho0 (below_size (by repeat (first|(with_reducible first|exact HB.out|apply below_alloc|apply pw_below_drewN|apply below_drew1|refine below_set ?_ GE119.out)|exact HB.out))));have n1_:=Aside0.mk (blk_below (g:=gb119) (o:=.cells #[.int .i64 a0_0,.int .i64 a0_1,.int .i64 a0_2] 52 (0,0)) (by (with_reducible repeat (first|refine blk_drewN ?_ _|refine blk_drew ?_|refine blk_alloc ?_ _));exact BK119.out) hb);have n2_:=Aside0.mk (below_step (by repeat (first|(with_reducible first|exact HB.out|apply below_alloc|apply pw_below_drewN|apply below_drew1|refine below_set ?_ GE119.out)|exact HB.out)) hb);clear BK119;clear HB;have HO122:=n0_;have BK119:=n1_;have HB:=n2_;clear n0_ n1_ n2_;(try clear hb);(try clear hb2);(try clear hk);(try clear hi);(try clear ho0)))
     have n0_:=Aside0.mk (Kd.R_drew HO122.out)
     have n1_:=Aside0.mk (blk_drew BK119.out)
     have n2_:=Aside0.mk (below_drew1 HB.out)
     clear HO122
     clear BK119
     clear HB
     have HO122:=n0_
     have BK119:=n1_
     have HB:=n2_
     clear n0_ n1_ n2_
     obtain ⟨Ao35,co35,eo35⟩:=Kd.R_slice HO122.out
     (first|subst eo35|(injection eo35 with f1_ f2_ f3_;have f4_:=f1_.symm;have f5_:=f3_.symm;clear f1_ f2_ f3_;subst f4_;subst f5_))
     have p123:0≤(a0_0:Int):=of_decide_eq_true (by first|(with_reducible assumption)|assumption)
     have q123:a0_0<(t120.length:Int):=of_decide_eq_true (by first|(with_reducible assumption)|assumption)
     obtain ⟨ad123,e123,hx123_0⟩:=Kd.at_string (Kd.R_reads' HO122.out).2.2 a0_0 p123 q123
     cases e123
     replace p123:=eq_true p123
     replace q123:=eq_true q123
     refine start_ (n:=11) (S:=fun w'=>w'.cell? ⟨gb119,0,none⟩=some (.int .i64 a0_0)∧w'.cell? ⟨gb119,1,none⟩=some (.int .i64 a0_1)∧w'.cell? ⟨gb119,2,none⟩=some (.int .i64 a0_2)∧w'.cell? (ad123.add (a0_0).toNat)=some (.string (rdOf ByteArray.empty t120 a0_0))) (ds:=[]) #[false,false,false,false,false,false,false,false,false,false,false] (by kernel_rfl) rfl rfl ⟨(blk_cell BK119.out 0).trans rfl,(blk_cell BK119.out 1).trans rfl,(blk_cell BK119.out 2).trans rfl,hx123_0⟩ (fun hHeld=>?_);refine with_tabW spec_l4line.tab2 spec_l4line.bits2 (fun HT_ HW_=>?_)
     generalize w33.drew=w34 at HO122 BK119 HB hx123_0 hHeld ⊢
     refine pure_ (i:=0) (N:=some 6) (v:=?_) (a':=?_) #[true,false,false,false,false,false,false,false,false,false,false] rfl rfl (any_of HT_.out (by kernel_rfl)) (fun _ _ _ h=>h) (Or.inl ⟨by rfl,?_⟩) ?_ ?_
     rotate_left
     ·intro w'
      go_simp
      with_reducible rfl
     rotate_left
     ·simp only [Act.put,List.setIfInBounds_toArray,List.set_cons_zero,List.set_cons_succ,i64_w,i32_w]
      rfl
     refine pure_ (i:=1) (N:=some 7) (v:=?_) (a':=?_) #[true,true,false,false,false,false,false,false,false,false,false] rfl rfl (any_of HT_.out (by kernel_rfl)) (fun _ _ _ h=>h) (Or.inl ⟨by rfl,?_⟩) ?_ ?_
     rotate_left
     ·intro w'
      go_simp
      with_reducible rfl
     rotate_left
     ·simp only [Act.put,List.setIfInBounds_toArray,List.set_cons_zero,List.set_cons_succ,i64_w,i32_w]
      rfl
     refine pure_ (i:=6) (N:=some 12) (v:=?_) (a':=?_) #[true,true,false,false,false,false,true,false,false,false,false] rfl rfl (any_of HT_.out (by kernel_rfl)) (fun _ _ _ h=>h) (Or.inl ⟨by rfl,?_⟩) ?_ ?_
     rotate_left
     ·intro w'
      go_simp
      with_reducible rfl
     rotate_left
     ·simp only [Act.put,List.setIfInBounds_toArray,List.set_cons_zero,List.set_cons_succ,i64_w,i32_w]
      rfl
     refine take_ (i:=2) (N:=some 8) (v:=?_) (a':=?_) #[true,true,true,false,false,false,true,false,false,false,false] rfl rfl (take_ofW HT_.out HW_.out (by kernel_rfl)) (fun _ _ _ h=>h) (Or.inl ⟨by rfl,?_⟩) hHeld ?_ ?_
     rotate_left
     ·rintro w' ⟨s0,s1,s2,s3⟩
      go_simp
      with_reducible rfl
     rotate_left
     ·simp only [Act.put,List.setIfInBounds_toArray,List.set_cons_zero,List.set_cons_succ,i64_w,i32_w]
      rfl
     refine pure_ (i:=3) (N:=some 9) (v:=?_) (a':=?_) #[true,true,true,true,false,false,true,false,false,false,false] rfl rfl (any_of HT_.out (by kernel_rfl)) (fun _ _ _ h=>h) (Or.inl ⟨by rfl,?_⟩) ?_ ?_
     rotate_left
     ·intro w'
      go_simp
      with_reducible rfl
     rotate_left
     ·simp only [Act.put,List.setIfInBounds_toArray,List.set_cons_zero,List.set_cons_succ,i64_w,i32_w]
      rfl
     refine take_ (i:=4) (N:=some 10) (v:=?_) (a':=?_) #[true,true,true,true,true,false,true,false,false,false,false] rfl rfl (take_ofW HT_.out HW_.out (by kernel_rfl)) (fun _ _ _ h=>h) (Or.inl ⟨by rfl,?_⟩) hHeld ?_ ?_
     rotate_left
     ·rintro w' ⟨s0,s1,s2,s3⟩
      go_simp
      with_reducible rfl
     rotate_left
     ·simp only [Act.put,List.setIfInBounds_toArray,List.set_cons_zero,List.set_cons_succ,i64_w,i32_w]
      rfl
     refine pure_ (i:=5) (N:=some 11) (v:=?_) (a':=?_) #[true,true,true,true,true,true,true,false,false,false,false] rfl rfl (any_of HT_.out (by kernel_rfl)) (fun _ _ _ h=>h) (Or.inl ⟨by rfl,?_⟩) ?_ ?_
     rotate_left
     ·intro w'
      go_simp
      with_reducible rfl
     rotate_left
     ·simp only [Act.put,List.setIfInBounds_toArray,List.set_cons_zero,List.set_cons_succ,i64_w,i32_w]
      rfl
     refine take_ (i:=7) (N:=some 13) (v:=?_) (a':=?_) #[true,true,true,true,true,true,true,true,false,false,false] rfl rfl (take_ofW HT_.out HW_.out (by kernel_rfl)) (fun _ _ _ h=>h) (Or.inl ⟨by rfl,?_⟩) hHeld ?_ ?_
     rotate_left
     ·rintro w' ⟨s0,s1,s2,s3⟩
      go_simp
      with_reducible rfl
     rotate_left
     ·simp only [Act.put,List.setIfInBounds_toArray,List.set_cons_zero,List.set_cons_succ,i64_w,i32_w]
      rfl
     refine one_ (i:=8) (N:=some 14) #[true,true,true,true,true,true,true,true,true,false,false] rfl rfl (one_of HT_.out (by kernel_rfl)) (by decide) (fun K hK=>?_)
     refine goes_ Tryd.func44 (by kernel_rfl) rfl #[.int .i64 a0_1] (by rfl) rfl rfl (by (try simp only [List.map_toArray,List.map_cons,List.map_nil]);first|done|rfl|(simp only [List.length_drop,List.length_take];rfl)) ?_
     with_reducible refine (spec_l4decimal.calls a0_1 t124 _ A6.out).mono ?_
     rintro e w36 ⟨rfl,hb⟩
     have HS3_:=(hb.cell (World.block_lt_of_cell? _ _ (hHeld.2.2.2))).trans (hHeld.2.2.2)
     refine ⟨_,rfl,?_⟩
     have n0_:=Aside0.mk (Kd.R_below (by (with_reducible repeat (first|apply Kd.R_alloc|apply Kd.R_drewN|apply Kd.R_drew));exact HO122.out) hb)
     have n1_:=Aside0.mk (blk_below (g:=gb119) (o:=.cells #[.int .i64 a0_0,.int .i64 a0_1,.int .i64 a0_2] 52 (0,0)) (by (with_reducible repeat (first|refine blk_drewN ?_ _|refine blk_drew ?_|refine blk_alloc ?_ _));exact BK119.out) hb)
     have n2_:=Aside0.mk (below_step (by repeat (first|(with_reducible first|exact HB.out|apply below_alloc|apply pw_below_drewN|apply below_drew1|refine below_set ?_ GE119.out)|exact HB.out)) hb)
     clear HO122
     clear BK119
     clear HB
     have HO122:=n0_
     have BK119:=n1_
     have HB:=n2_
     clear n0_ n1_ n2_
     (try clear hb)
     (try clear hb2)
     (try clear hk)
     (try clear hi)
     refine hK.out _ _ ⟨(blk_cell BK119.out 0).trans rfl,(blk_cell BK119.out 1).trans rfl,(blk_cell BK119.out 2).trans rfl,HS3_⟩ (fun hHeld=>?_)
     clear hK K
     refine norm_ (a':=?_) ?_ ?_
     rotate_left
     ·show Act.put _ (some 14) _=_
      simp only [Act.put,List.setIfInBounds_toArray,List.set_cons_zero,List.set_cons_succ,i64_w,i32_w]
      rfl
     refine pure_ (i:=9) (N:=some 15) (v:=?_) (a':=?_) #[true,true,true,true,true,true,true,true,true,true,false] rfl rfl (any_of HT_.out (by kernel_rfl)) (fun _ _ _ h=>h) (Or.inl ⟨by rfl,?_⟩) ?_ ?_
     rotate_left
     ·intro w'
      go_simp
      with_reducible rfl
     rotate_left
     ·simp only [Act.put,List.setIfInBounds_toArray,List.set_cons_zero,List.set_cons_succ,i64_w,i32_w]
      rfl
     refine pure_ (i:=10) (N:=some 4) (v:=?_) (a':=?_) #[true,true,true,true,true,true,true,true,true,true,true] rfl rfl (any_of HT_.out (by kernel_rfl)) (fun _ _ _ h=>h) (Or.inl ⟨by rfl,?_⟩) ?_ ?_
     rotate_left
     ·intro w'
      go_simp
      with_reducible rfl
     rotate_left
     ·simp only [Act.put,List.setIfInBounds_toArray,List.set_cons_zero,List.set_cons_succ,i64_w,i32_w]
      rfl
     refine done_ (done_of HT_.out (by kernel_rfl)) ?_
     have hcz37_0:w36.cell? ⟨gb119,0,none⟩=some (.int .i64 a0_0):=(blk_cell BK119.out 0).trans rfl
     have hcz37_1:w36.cell? ⟨gb119,1,none⟩=some (.int .i64 a0_1):=(blk_cell BK119.out 1).trans rfl
     have hcz37_2:w36.cell? ⟨gb119,2,none⟩=some (.int .i64 a0_2):=(blk_cell BK119.out 2).trans rfl
     have hfz37_0:=blk_frozen BK119.out 0
     have hfz37_1:=blk_frozen BK119.out 1
     have hfz37_2:=blk_frozen BK119.out 2
     try go_wp2
     go_ret
     exact ⟨by first|rfl|(simp [errW_none,errW_some] <;> rfl)|(simp [*,errW_none,errW_some] <;> rfl),by repeat (first|(with_reducible first|exact HB.out|apply below_alloc|apply pw_below_drewN|apply below_drew1|refine below_set ?_ GE119.out)|exact HB.out)⟩
    rw [if_neg c7] at H
    exact absurd H (by simp)
   rw [if_neg c5] at H
   exact absurd H (by simp)
  rw [if_neg c4] at H
  exact absurd H (by simp)
 rw [if_neg c3] at H
 exact absurd H (by simp)
end Go.Proofs.YtpdnabhpkdchjaaDoor.P
namespace Go.Proofs.YtpdnabhpkdchjaaDoor.P
open Go Go.RowKit Go.Proofs.YtpdnabhpkdchjaaDoorW.PrintWords Go.Proofs.YtpdnabhpkdchjaaDoorW.PrintLast Go.Proofs.YtpdnabhpkdchjaaDoorW.PrintMore
set_option linter.unusedVariables false
set_option linter.unusedSimpArgs false
abbrev bs (l : List UInt8) : ByteArray := ⟨l.toArray⟩
theorem bs_size (l : List UInt8) : (bs l).size = l.length := by simp [bs, ByteArray.size]
theorem bs_bytes (l : List UInt8) : bytesOf (bs l) = l.map (fun b => (b.toNat : Int)) := by simp [bytesOf, bs]
theorem words_eq (op : Int) (h : 1 ≤ op ∧ op ≤ 5) : rdOf ByteArray.empty [(⟨#[]⟩ : ByteArray), (⟨#[112, 97, 115, 115]⟩ : ByteArray), (⟨#[103, 104, 111, 115, 116]⟩ : ByteArray), (⟨#[100, 101, 97, 100]⟩ : ByteArray), (⟨#[97, 108, 105, 118, 101]⟩ : ByteArray), (⟨#[114, 101, 115, 101, 116]⟩ : ByteArray)] op = bs (wordB op.toNat) := by
  obtain rfl | rfl | rfl | rfl | rfl : op = 1 ∨ op = 2 ∨ op = 3 ∨ op = 4 ∨ op = 5 := by omega
  all_goals rfl
theorem line_f {op of dir : Int} (h : 1 ≤ op ∧ op ≤ 5) (ho : 0 ≤ of ∧ of ≤ 119) (hd : -1 ≤ dir ∧ dir ≤ 1) : spec_l4line.f op of dir = some (bs (wordB op.toNat ++ [32] ++ Lib.decDigits of.toNat ++ dirB dir)) := by
  have e1 : spec_l4decimal.f of = some (bs (Lib.decDigits of.toNat)) := if_pos ⟨ho.1, by omega⟩
  have hw := word_len op.toNat
  have hg := digits_len of.toNat
  unfold spec_l4line.f
  rw [show spec_l4words.f = some _ from rfl, Option.bind_some, if_pos (by omega), if_pos (by show op < ((6 : Nat) : Int); omega), words_eq op h, if_pos (by rw [bs_size]; omega), e1, Option.bind_some]
  have a1 : bs (wordB op.toNat) ++ (⟨#[32]⟩ : ByteArray) = bs (wordB op.toNat ++ [32]) := bytes_app _ [32]
  have a2 : bs (wordB op.toNat ++ [32]) ++ bs (Lib.decDigits of.toNat) = bs (wordB op.toNat ++ [32] ++ Lib.decDigits of.toNat) := bytes_app _ _
  rw [a1, if_pos (by rw [bs_size, bs_size, List.length_append, List.length_singleton]; omega), a2]
  have sz : (bs (wordB op.toNat ++ [32] ++ Lib.decDigits of.toNat)).size + 2 ≤ 9223372036854775807 := by rw [bs_size]; simp only [List.length_append, List.length_singleton]; omega
  obtain rfl | rfl | rfl : dir = 1 ∨ dir = -1 ∨ dir = 0 := by omega
  · rw [if_pos (by omega), if_pos sz, if_neg (by omega)]
    exact congrArg some (bytes_app _ [32, 43])
  · rw [if_neg (by omega), if_pos (by omega), if_pos sz]
    exact congrArg some (bytes_app _ [32, 45])
  · rw [if_neg (by omega), if_neg (by omega)]
    simp [dirB]
end Go.Proofs.YtpdnabhpkdchjaaDoor.P
namespace Go.Proofs.YtpdnabhpkdchjaaDoor.P
open Go Go.RowKit Go.Proofs.YtpdnabhpkdchjaaDoorW.PrintWords Go.Proofs.YtpdnabhpkdchjaaDoorW.PrintLast Go.Proofs.YtpdnabhpkdchjaaDoorW.PrintMore
set_option linter.unusedVariables false
set_option linter.unusedSimpArgs false
def numOf (l : List UInt8) : Nat := l.foldl (fun a b => a * 10 + (b.toNat - 48)) 0
theorem numOf_digits (n : Nat) : numOf (Lib.decDigits n) = n := by
  induction n using Nat.strongRecOn with
  | ind n ih =>
    rw [Lib.decDigits]
    by_cases h : n < 10
    · rw [dif_pos h]
      show 0 * 10 + ((UInt8.ofNat (48 + n)).toNat - 48) = n
      rw [UInt8.toNat_ofNat']
      omega
    · rw [dif_neg h]
      have := ih (n / 10) (by omega)
      unfold numOf at this ⊢
      rw [List.foldl_append, this]
      show n / 10 * 10 + ((UInt8.ofNat (48 + n % 10)).toNat - 48) = n
      rw [UInt8.toNat_ofNat']
      omega
theorem digits_inj {a b : Nat} (h : Lib.decDigits a = Lib.decDigits b) : a = b := by
  rw [← numOf_digits a, ← numOf_digits b, h]
theorem digits_plain (n : Nat) : ∀ x ∈ Lib.decDigits n, 48 ≤ x.toNat ∧ x.toNat ≤ 57 := by
  induction n using Nat.strongRecOn with
  | ind n ih =>
    rw [Lib.decDigits]
    by_cases h : n < 10
    · rw [dif_pos h]
      intro x hx
      obtain rfl : x = UInt8.ofNat (48 + n) := by simpa using hx
      rw [UInt8.toNat_ofNat']
      omega
    · rw [dif_neg h]
      intro x hx
      rcases List.mem_append.1 hx with hx | hx
      · exact ih (n / 10) (by omega) x hx
      · obtain rfl : x = UInt8.ofNat (48 + n % 10) := by simpa using hx
        rw [UInt8.toNat_ofNat']
        omega
def lineN (op of dir : Int) : List UInt8 := wordB op.toNat ++ [32] ++ Lib.decDigits of.toNat ++ dirB dir
theorem take_upto {a b c : List UInt8} (ha : ∀ x ∈ a, x ≠ 32) (h : b = [] ∨ ∃ r, b = 32 :: r) : (a ++ b).takeWhile (· != 32) = a := by
  induction a with
  | nil =>
    rcases h with rfl | ⟨r, rfl⟩
    · rfl
    · simp [List.takeWhile]
  | cons x a ih =>
    have hx := ha x List.mem_cons_self
    rw [List.cons_append, List.takeWhile_cons, if_pos (by simpa using hx), ih (fun y hy => ha y (List.mem_cons_of_mem _ hy))]
theorem word_plain {op : Int} (h : 1 ≤ op ∧ op ≤ 5) : ∀ x ∈ wordB op.toNat, x ≠ 32 ∧ x ≠ 10 := by
  obtain rfl | rfl | rfl | rfl | rfl : op = 1 ∨ op = 2 ∨ op = 3 ∨ op = 4 ∨ op = 5 := by omega
  all_goals decide
theorem word_inj {a b : Int} (ha : 1 ≤ a ∧ a ≤ 5) (hb : 1 ≤ b ∧ b ≤ 5) (h : wordB a.toNat = wordB b.toNat) : a = b := by
  obtain rfl | rfl | rfl | rfl | rfl : a = 1 ∨ a = 2 ∨ a = 3 ∨ a = 4 ∨ a = 5 := by omega
  all_goals
    obtain rfl | rfl | rfl | rfl | rfl : b = 1 ∨ b = 2 ∨ b = 3 ∨ b = 4 ∨ b = 5 := by omega
    all_goals first | rfl | (exfalso; revert h; decide)
theorem dir_form (d : Int) : dirB d = [] ∨ ∃ r, dirB d = 32 :: r := by
  unfold dirB
  split
  · exact .inr ⟨_, rfl⟩
  · split
    · exact .inr ⟨_, rfl⟩
    · exact .inl rfl
theorem dir_inj {a b : Int} (ha : -1 ≤ a ∧ a ≤ 1) (hb : -1 ≤ b ∧ b ≤ 1) (h : dirB a = dirB b) : a = b := by
  obtain rfl | rfl | rfl : a = 1 ∨ a = -1 ∨ a = 0 := by omega
  all_goals
    obtain rfl | rfl | rfl : b = 1 ∨ b = -1 ∨ b = 0 := by omega
    all_goals first | rfl | (exfalso; revert h; decide)
theorem line_inj {o1 f1 d1 o2 f2 d2 : Int} (ho1 : 1 ≤ o1 ∧ o1 ≤ 5) (ho2 : 1 ≤ o2 ∧ o2 ≤ 5) (hf1 : 0 ≤ f1) (hf2 : 0 ≤ f2) (hd1 : -1 ≤ d1 ∧ d1 ≤ 1) (hd2 : -1 ≤ d2 ∧ d2 ≤ 1) (h : lineN o1 f1 d1 = lineN o2 f2 d2) : o1 = o2 ∧ f1 = f2 ∧ d1 = d2 := by
  unfold lineN at h
  simp only [List.append_assoc] at h
  have t1 := take_upto (c := []) (b := [32] ++ (Lib.decDigits f1.toNat ++ dirB d1)) (fun x hx => (word_plain ho1 x hx).1) (.inr ⟨_, rfl⟩)
  have t2 := take_upto (c := []) (b := [32] ++ (Lib.decDigits f2.toNat ++ dirB d2)) (fun x hx => (word_plain ho2 x hx).1) (.inr ⟨_, rfl⟩)
  have hw : wordB o1.toNat = wordB o2.toNat := by rw [← t1, ← t2, h]
  have e1 := word_inj ho1 ho2 hw
  rw [hw] at h
  have h2 := List.append_cancel_left (List.append_cancel_left h)
  have p : ∀ (f : Int), ∀ x ∈ Lib.decDigits f.toNat, x ≠ 32 := by
    intro f x hx hc
    have := (digits_plain _ x hx).1
    rw [hc] at this
    revert this
    decide
  have u1 := take_upto (c := []) (p f1) (dir_form d1)
  have u2 := take_upto (c := []) (p f2) (dir_form d2)
  have hg : Lib.decDigits f1.toNat = Lib.decDigits f2.toNat := by rw [← u1, ← u2, h2]
  have e2 := digits_inj hg
  rw [hg] at h2
  exact ⟨e1, by omega, dir_inj hd1 hd2 (List.append_cancel_left h2)⟩
def Tells (n : Int) (l : List S98) (s : List UInt8) (e : S52) : Prop := eventOk n l e.f0 e.f1 e.f2 = true ∧ lineN e.f0 e.f1 e.f2 = s
theorem Tells.one {n : Int} {l : List S98} {s : List UInt8} {e f : S52} (h : Tells n l s e) (k : Tells n l s f) : e = f := by
  have a := ev_parts h.1
  have b := ev_parts k.1
  obtain ⟨h1, h2, h3⟩ := line_inj a.2.1 b.2.1 a.2.2.1.1 b.2.2.1.1 a.2.2.2.1 b.2.2.2.1 (h.2.trans k.2.symm)
  cases e; cases f
  simp_all
open Classical in
noncomputable def evOf (n : Int) (l : List S98) (s : List UInt8) : Option S52 := if h : ∃ e, Tells n l s e then some h.choose else none
theorem evOf_some {n : Int} {l : List S98} {s : List UInt8} {e : S52} (h : Tells n l s e) : evOf n l s = some e := by
  have hx : ∃ e, Tells n l s e := ⟨e, h⟩
  rw [evOf, dif_pos hx, hx.choose_spec.one h]
theorem evOf_none {n : Int} {l : List S98} {s : List UInt8} (h : ∀ e, ¬ Tells n l s e) : evOf n l s = none := by
  rw [evOf, dif_neg (fun ⟨e, he⟩ => h e he)]
noncomputable def evRes (n : Int) (l : List S98) (s : List UInt8) : Int × Int × Int × Bool := match evOf n l s with | some e => (e.f0, e.f1, e.f2, true) | none => (0, 0, 0, false)
theorem evRes_some {n : Int} {l : List S98} {s : List UInt8} {e : S52} (h : Tells n l s e) : evRes n l s = (e.f0, e.f1, e.f2, true) := by rw [evRes, evOf_some h]
theorem evRes_none {n : Int} {l : List S98} {s : List UInt8} (h : ∀ e, ¬ Tells n l s e) : evRes n l s = (0, 0, 0, false) := by rw [evRes, evOf_none h]
def most (n : Int) (l : List S98) : Int := if n > (l.length : Int) then n else (l.length : Int)
theorem ev_most {n : Int} {l : List S98} {op of dir : Int} (h : eventOk n l op of dir = true) : of < most n l ∧ most n l ≤ 120 := by
  have hl := (ev_parts h).1
  have hn := lay_n hl
  unfold eventOk at h
  rw [if_pos hl] at h
  unfold most
  split at h
  · simp at h; split <;> omega
  · split at h
    · simp at h; split <;> omega
    · split at h
      · simp at h; split <;> omega
      · cases h
end Go.Proofs.YtpdnabhpkdchjaaDoor.P
namespace Go.Proofs.YtpdnabhpkdchjaaDoor.P
open Go.RowKit Go.Proofs.YtpdnabhpkdchjaaDoorW.PrintWords Go.Proofs.YtpdnabhpkdchjaaDoorW.PrintLast Go.Proofs.YtpdnabhpkdchjaaDoorW.PrintMore
attribute [local go_sem] max2_int min2_int max_two min_two max_three min_three max_four min_four
set_option linter.unusedVariables false
set_option linter.unusedSimpArgs false
mutual
def spec_l4event.j0:Nat→ByteArray→Int→Int→List (S98)→Option (Int × Int × Int × Bool)
 | 0,_,_,_,_=>none
 | k+1,x1,x6,x228000,x228001=>spec_l4event.l0 k x1 x6 1 x228000 x228001
def spec_l4event.l0:Nat→ByteArray→Int→Int→Int→List (S98)→Option (Int × Int × Int × Bool)
 | 0,_,_,_,_,_=>none
 | k+1,x1,x6,x7,x228000,x228001=>if x7≤5 then ((spec_l4words.f).bind fun t229=>(if 0≤x7 then (if x7<(t229.length:Int) then (if (rdOf ByteArray.empty t229 x7).size+1≤9223372036854775807 then (if (x1.size:Int)<(((rdOf ByteArray.empty t229 x7) ++ (⟨#[32]⟩:ByteArray)).size:Int) then (spec_l4event.j2 k x1 x6 x7 true x228000 x228001) else (if 0≤(((rdOf ByteArray.empty t229 x7) ++ (⟨#[32]⟩:ByteArray)).size:Int) then (if (((rdOf ByteArray.empty t229 x7) ++ (⟨#[32]⟩:ByteArray)).size:Int)≤(x1.size:Int) then (spec_l4event.j2 k x1 x6 x7 ((x1.extract 0 ((((rdOf ByteArray.empty t229 x7) ++ (⟨#[32]⟩:ByteArray)).size:Int):Int).toNat).toList != ((rdOf ByteArray.empty t229 x7) ++ (⟨#[32]⟩:ByteArray)).toList) x228000 x228001) else (none)) else (none))) else (none)) else (none)) else (none))) else (some (0,0,0,false))
def spec_l4event.j2:Nat→ByteArray→Int→Int→Bool→Int→List (S98)→Option (Int × Int × Int × Bool)
 | 0,_,_,_,_,_,_=>none
 | k+1,x1,x6,x7,x44,x228000,x228001=>if x44=true then (spec_l4event.l0 k x1 x6 (wrap64 (x7+1)) x228000 x228001) else (spec_l4event.l1 k x1 x6 x7 0 x228000 x228001)
def spec_l4event.l1:Nat→ByteArray→Int→Int→Int→Int→List (S98)→Option (Int × Int × Int × Bool)
 | 0,_,_,_,_,_,_=>none
 | k+1,x1,x6,x7,x10,x228000,x228001=>if x10<x6 then (spec_l4event.l2 k x1 x6 x7 x10 (-1) x228000 x228001) else (spec_l4event.l0 k x1 x6 (wrap64 (x7+1)) x228000 x228001)
def spec_l4event.l2:Nat→ByteArray→Int→Int→Int→Int→Int→List (S98)→Option (Int × Int × Int × Bool)
 | 0,_,_,_,_,_,_,_=>none
 | k+1,x1,x6,x7,x10,x11,x228000,x228001=>if x11≤1 then ((spec_EventOk.f k x228000 x228001 x7 x10 x11).bind fun t234=>(if t234=true then ((spec_l4line.f x7 x10 x11).bind fun t235=>(if t235.toList=x1.toList then (some (x7,x10,x11,true)) else (spec_l4event.l2 k x1 x6 x7 x10 (wrap64 (x11+1)) x228000 x228001))) else (spec_l4event.l2 k x1 x6 x7 x10 (wrap64 (x11+1)) x228000 x228001))) else (spec_l4event.l1 k x1 x6 x7 (wrap64 (x10+1)) x228000 x228001)
end
def spec_l4event.f (k:Nat) (a0_0:Int) (l0_1:List (S98)) (a1:ByteArray):Option (Int × Int × Int × Bool):=if a0_0 > (l0_1.length:Int) then (spec_l4event.j0 k a1 a0_0 a0_0 l0_1) else (spec_l4event.j0 k a1 (l0_1.length:Int) a0_0 l0_1)
set_option maxHeartbeats 8000000 in
set_option maxRecDepth 100000 in
theorem spec_l4event.calls (k:Nat) (a0_0:Int) (A0_1:Option Addr) (c0_1:Nat) (l0_1:List (S98)) (a1:ByteArray) (r1:Int) (r2:Int) (r3:Int) (r4:Bool) (w:World) (hr0_1:Kd.C k98 w A0_1 l0_1.length l0_1) (hc0_1:l0_1.length≤c0_1) (h:spec_l4event.f k a0_0 l0_1 a1=some (r1,r2,r3,r4)) :
  Calls Tryd.prog 39 #[.agg #[.int .i64 a0_0,.slice A0_1 l0_1.length c0_1],.string a1] w fun e w'=>e=.returned (.tuple #[.agg #[.int .i64 r1,.int .i64 r2,.int .i64 r3],.bool r4])∧Below w.heap.size w w':=by
 have hu31:=Tryd.underlying31
 have hu52:=Tryd.underlying52
 have HR0_1:=Aside0.mk hr0_1
 have HC0_1:=Aside0.mk hc0_1
 clear hr0_1 hc0_1
 have HB:=Aside0.mk (Below.refl w.heap.size w)
 have H:(if a0_0 > (l0_1.length:Int) then (spec_l4event.j0 k a1 a0_0 a0_0 l0_1) else (spec_l4event.j0 k a1 (l0_1.length:Int) a0_0 l0_1))=some (r1,r2,r3,r4):=h
 clear h
 have HC3:=Aside0.mk H
 clear H
 go_enter Tryd.func39,Tryd.ntmps39
 go_upto_if 19 with (first|((with_reducible refine gate_dst (N:=2) rfl ?_);(try (refine gate_guard (by rfl) ?_;dsimp only));refine box_event ?hg (N:=2) ?hd (cs:=#[.int .i64 a0_0,.slice A0_1 l0_1.length c0_1]) (t:=31) ?hr ?_;(case hd=>rfl);(case hg=>rfl);(case hr=>first|(go_simp;done)|(go_simp;rfl));intro gb227 hg w4 hbox hb;have n0_:=Aside0.mk (below_step (by repeat (first|(with_reducible first|exact HB.out|apply below_alloc|apply pw_below_drewN|apply below_drew1)|exact HB.out)) hb);have n1_:=Aside0.mk (hbox);have n2_:=Aside0.mk ((by rw [hg];exact (below_size (by repeat (first|(with_reducible first|exact HB.out|apply below_alloc|apply pw_below_drewN|apply below_drew1)|exact HB.out))):w.heap.size≤gb227));have n3_:=Aside0.mk ((by rw [hg];exact (below_size (by repeat (first|(with_reducible first|exact HB.out|apply below_alloc|apply pw_below_drewN|apply below_drew1)|exact HB.out))):w.heap.size≤gb227));clear HB;have HB:=n0_;have BK227:=n1_;have GW227:=n2_;have GE227:=n3_;clear n0_ n1_ n2_ n3_;clear hb hbox hg)|((with_reducible refine gate_dst (N:=4) rfl ?_);(try (refine gate_guard (by rfl) ?_;dsimp only));refine box_event ?hg (N:=4) ?hd (cs:=#[.int .i64 0,.int .i64 0,.int .i64 0]) (t:=52) ?hr ?_;(case hd=>rfl);(case hg=>rfl);(case hr=>first|(go_simp;done)|(go_simp;rfl));intro gb228 hg w5 hbox hb;have n0_:=Aside0.mk (blk_below (g:=gb227) (o:=.cells #[.int .i64 a0_0,.slice A0_1 l0_1.length c0_1] 31 (0,0)) (by (with_reducible repeat (first|refine blk_drewN ?_ _|refine blk_drew ?_|refine blk_alloc ?_ _));exact BK227.out) hb);have n1_:=Aside0.mk (below_step (by repeat (first|(with_reducible first|exact HB.out|apply below_alloc|apply pw_below_drewN|apply below_drew1|refine below_set ?_ GE227.out)|exact HB.out)) hb);have n2_:=Aside0.mk (hbox);have n3_:=Aside0.mk ((by rw [hg];exact (below_size (by repeat (first|(with_reducible first|exact HB.out|apply below_alloc|apply pw_below_drewN|apply below_drew1|refine below_set ?_ GE227.out)|exact HB.out))):w.heap.size≤gb228));have n4_:=Aside0.mk ((by rw [hg];exact (below_size (by repeat (first|(with_reducible first|exact HB.out|apply below_alloc|apply pw_below_drewN|apply below_drew1|refine below_set ?_ GE227.out)|exact HB.out))):w.heap.size≤gb228));have n5_:=Aside0.mk ((by rw [hg];exact Nat.ne_of_lt (blk_lt (g:=gb227) (o:=.cells #[.int .i64 a0_0,.slice A0_1 l0_1.length c0_1] 31 (0,0)) (by (with_reducible repeat (first|refine blk_drewN ?_ _|refine blk_drew ?_|refine blk_alloc ?_ _));exact BK227.out)):gb227 ≠ gb228));have n6_:=Aside0.mk ((by rw [hg];exact Nat.ne_of_gt (blk_lt (g:=gb227) (o:=.cells #[.int .i64 a0_0,.slice A0_1 l0_1.length c0_1] 31 (0,0)) (by (with_reducible repeat (first|refine blk_drewN ?_ _|refine blk_drew ?_|refine blk_alloc ?_ _));exact BK227.out)):gb228 ≠ gb227));clear BK227;clear HB;have BK227:=n0_;have HB:=n1_;have BK228:=n2_;have GW228:=n3_;have GE228:=n4_;have NB227_228:=n5_;have NB228_227:=n6_;clear n0_ n1_ n2_ n3_ n4_ n5_ n6_;clear hb hbox hg;have hnb6:=NB227_228.out;have hnc6:=NB228_227.out;have hcz7_0:w5.cell? ⟨gb227,0,none⟩=some (.int .i64 a0_0):=(blk_cell BK227.out 0).trans rfl;have hcz7_1:w5.cell? ⟨gb227,1,none⟩=some (.slice A0_1 l0_1.length c0_1):=(blk_cell BK227.out 1).trans rfl;have hfz7_0:=blk_frozen BK227.out 0;have hfz7_1:=blk_frozen BK227.out 1))
 (try simp only [Act.put,List.setIfInBounds_toArray,List.set_cons_zero,List.set_cons_succ])
 go_cut [6] (fun v6 wc=>∃ (kq:Nat) (x6_2:Int),v6=.int .i64 x6_2∧Aside0 (spec_l4event.j0 kq a1 x6_2 a0_0 l0_1=some (r1,r2,r3,r4))∧Aside0 (kq≤k)∧Aside0 (wc.heap[gb227]?=some (.cells #[.int .i64 a0_0,(.slice A0_1 l0_1.length c0_1)] 31 (0,0)))∧Aside0 (wc.heap[gb228]?=some (.cells #[.int .i64 0,.int .i64 0,.int .i64 0] 52 (0,0)))∧Aside0 (Below w.heap.size w wc))
 case first =>
  have H:=HC3.out
  clear HC3
  by_cases c8:a0_0 > (l0_1.length:Int)
  ·rw [if_pos c8] at H
   have c8b0:decide ((l0_1.length:Int)<a0_0)=true:=decide_eq_true c8
   clear c8
   (first|rw [c8b0]|(simp only [i64_w,i32_w];rw [c8b0])|skip)
   have H':=Aside0.mk H
   clear H
   have hnb9:=NB227_228.out
   have hnc9:=NB228_227.out
   have hcz10_0:w5.cell? ⟨gb227,0,none⟩=some (.int .i64 a0_0):=(blk_cell BK227.out 0).trans rfl
   have hcz10_1:w5.cell? ⟨gb227,1,none⟩=some (.slice A0_1 l0_1.length c0_1):=(blk_cell BK227.out 1).trans rfl
   have hfz10_0:=blk_frozen BK227.out 0
   have hfz10_1:=blk_frozen BK227.out 1
   go_wp2
   go_meet
   case rel=>exact ⟨_,(a0_0),(by first|rfl|(simp;done)|(simp [*];done)),H',⟨by first|omega|exact Nat.le_refl _⟩,⟨by (with_reducible repeat (first|refine blk_drewN ?_ _|refine blk_drew ?_|refine blk_alloc ?_ _));exact BK227.out⟩,⟨by (with_reducible repeat (first|refine blk_drewN ?_ _|refine blk_drew ?_|refine blk_alloc ?_ _));exact BK228.out⟩,⟨by repeat (first|(with_reducible first|exact HB.out|apply below_alloc|apply pw_below_drewN|apply below_drew1|refine below_set ?_ GE227.out|refine below_set ?_ GE228.out)|exact HB.out)⟩⟩
  rw [if_neg c8] at H
  have c8b0:decide ((l0_1.length:Int)<a0_0)=false:=decide_eq_false c8
  clear c8
  (first|rw [c8b0]|(simp only [i64_w,i32_w];rw [c8b0])|skip)
  have H':=Aside0.mk H
  clear H
  go_wp2
  go_meet
  case rel=>exact ⟨_,((l0_1.length:Int)),(by first|rfl|(simp;done)|(simp [*];done)),H',⟨by first|omega|exact Nat.le_refl _⟩,⟨by (with_reducible repeat (first|refine blk_drewN ?_ _|refine blk_drew ?_|refine blk_alloc ?_ _));exact BK227.out⟩,⟨by (with_reducible repeat (first|refine blk_drewN ?_ _|refine blk_drew ?_|refine blk_alloc ?_ _));exact BK228.out⟩,⟨by repeat (first|(with_reducible first|exact HB.out|apply below_alloc|apply pw_below_drewN|apply below_drew1|refine below_set ?_ GE227.out|refine below_set ?_ GE228.out)|exact HB.out)⟩⟩
 case rest =>
  clear HC3
  try clear p2
  try clear c3
  try clear c6
  try clear c8
  try clear c8b0
  try clear c9
  try clear hcz10_0
  try clear hcz10_1
  try clear hcz7_0
  try clear hcz7_1
  try clear hfz10_0
  try clear hfz10_1
  try clear hfz7_0
  try clear hfz7_1
  obtain ⟨kq,x6_2,rfl,HA,HJ2,BK227,BK228,HB⟩:=hcut
  cases kq with
  | zero=>exact absurd HA.out (by simp [spec_l4event.j0])
  | succ kj2 =>
   have H:=HA.out
   clear HA
   simp only [spec_l4event.j0] at H
   have H':=Aside0.mk H
   clear H
   go_wp2
   go_loopg [7] kj2 (fun kq v7 w'=>∃ (x7_2:Int) (x229000_2:Int) (x229001_2:Int) (x229002_2:Int),v7=.int .i64 x7_2∧Aside0 (spec_l4event.l0 kq a1 x6_2 x7_2 a0_0 l0_1=some (r1,r2,r3,r4))∧Aside0 (kq≤kj2)∧Aside0 (w'.heap[gb227]?=some (.cells #[.int .i64 a0_0,(.slice A0_1 l0_1.length c0_1)] 31 (0,0)))∧Aside0 (w'.heap[gb228]?=some (.cells #[.int .i64 x229000_2,.int .i64 x229001_2,.int .i64 x229002_2] 52 (0,0)))∧Aside0 (Below w.heap.size w w'))
   case atStart=>exact ⟨(1),(0),(0),(0),(by first|rfl|(simp;done)|(simp [*];done)),H',⟨Nat.le_refl _⟩,⟨by (with_reducible repeat (first|refine blk_drewN ?_ _|refine blk_drew ?_|refine blk_alloc ?_ _));exact BK227.out⟩,⟨by (with_reducible repeat (first|refine blk_drewN ?_ _|refine blk_drew ?_|refine blk_alloc ?_ _));exact BK228.out⟩,⟨by repeat (first|(with_reducible first|exact HB.out|apply below_alloc|apply pw_below_drewN|apply below_drew1|refine below_set ?_ GE227.out|refine below_set ?_ GE228.out)|exact HB.out)⟩⟩
   case round =>
    clear H'
    try clear p2
    try clear c3
    try clear c6
    try clear c8
    try clear c8b0
    try clear c9
    try clear hcz10_0
    try clear hcz10_1
    try clear hcz7_0
    try clear hcz7_1
    try clear hfz10_0
    try clear hfz10_1
    try clear hfz7_0
    try clear hfz7_1
    try clear p2
    obtain ⟨x7_2,x229000_2,x229001_2,x229002_2,rfl,HA,HK2,BK227,BK228,HB⟩:=hrel
    cases gk with
    | zero=>exact absurd HA.out (by simp [spec_l4event.l0])
    | succ k2 =>
     have H:=HA.out
     clear HA
     simp only [spec_l4event.l0] at H
     by_cases c11:x7_2≤5
     ·rw [if_pos c11] at H
      have c11b0:decide (x7_2≤5)=true:=decide_eq_true c11
      clear c11
      replace H:=Option.bind_eq_some_iff.mp H
      obtain ⟨t229,A120,H⟩:=H
      replace H:(if 0≤x7_2 then (if x7_2<(t229.length:Int) then (if (rdOf ByteArray.empty t229 x7_2).size+1≤9223372036854775807 then (if (a1.size:Int)<(((rdOf ByteArray.empty t229 x7_2) ++ (⟨#[32]⟩:ByteArray)).size:Int) then (spec_l4event.j2 k2 a1 x6_2 x7_2 true a0_0 l0_1) else (if 0≤(((rdOf ByteArray.empty t229 x7_2) ++ (⟨#[32]⟩:ByteArray)).size:Int) then (if (((rdOf ByteArray.empty t229 x7_2) ++ (⟨#[32]⟩:ByteArray)).size:Int)≤(a1.size:Int) then (spec_l4event.j2 k2 a1 x6_2 x7_2 ((a1.extract 0 ((((rdOf ByteArray.empty t229 x7_2) ++ (⟨#[32]⟩:ByteArray)).size:Int):Int).toNat).toList != ((rdOf ByteArray.empty t229 x7_2) ++ (⟨#[32]⟩:ByteArray)).toList) a0_0 l0_1) else (none)) else (none))) else (none)) else (none)) else (none))=some (r1,r2,r3,r4):=H
      have A12:=Aside0.mk A120
      clear A120
      by_cases c13:0≤x7_2
      ·rw [if_pos c13] at H
       have c13b0:decide (0≤x7_2)=true:=decide_eq_true c13
       clear c13
       by_cases c14:x7_2<(t229.length:Int)
       ·rw [if_pos c14] at H
        have c14b0:decide (x7_2<(t229.length:Int))=true:=decide_eq_true c14
        clear c14
        by_cases c15:(rdOf ByteArray.empty t229 x7_2).size+1≤9223372036854775807
        ·rw [if_pos c15] at H
         have c15b0:=eq_true c15
         have c15b1:decide ((rdOf ByteArray.empty t229 x7_2).size+1≤9223372036854775807)=true:=decide_eq_true c15
         try have c15b2:(9223372036854775807<(rdOf ByteArray.empty t229 x7_2).size+1)=False:=eq_false (Nat.not_lt.2 c15)
         have HC16:=Aside0.mk H
         clear H
         go_upto_region 9 with (first|((with_reducible refine gate_callee (f:=52) rfl ?_);refine goesL_ (some 26) rfl rfl Tryd.func52 (by kernel_rfl) rfl #[] rfl (by (try simp only [List.map_toArray,List.map_cons,List.map_nil]);first|done|rfl|(simp only [List.length_drop,List.length_take];rfl)) ?_;(with_reducible refine (spec_l4words.calls  t229 _ A12.out).mono ?_);rintro e w17 ⟨v230,rfl,ho0,hb⟩;refine ⟨_,rfl,?_⟩;have n0_:=Aside0.mk (Kd.R_lower ho0 (below_size (by repeat (first|(with_reducible first|exact HB.out|apply below_alloc|apply pw_below_drewN|apply below_drew1|refine below_set ?_ GE227.out|refine below_set ?_ GE228.out)|exact HB.out))));have n1_:=Aside0.mk (blk_below (g:=gb227) (o:=.cells #[.int .i64 a0_0,.slice A0_1 l0_1.length c0_1] 31 (0,0)) (by (with_reducible repeat (first|refine blk_drewN ?_ _|refine blk_drew ?_|refine blk_alloc ?_ _));exact BK227.out) hb);have n2_:=Aside0.mk (blk_below (g:=gb228) (o:=.cells #[.int .i64 x229000_2,.int .i64 x229001_2,.int .i64 x229002_2] 52 (0,0)) (by (with_reducible repeat (first|refine blk_drewN ?_ _|refine blk_drew ?_|refine blk_alloc ?_ _));exact BK228.out) hb);have n3_:=Aside0.mk (below_step (by repeat (first|(with_reducible first|exact HB.out|apply below_alloc|apply pw_below_drewN|apply below_drew1|refine below_set ?_ GE227.out|refine below_set ?_ GE228.out)|exact HB.out)) hb);clear BK227;clear BK228;clear HB;have HO231:=n0_;have BK227:=n1_;have BK228:=n2_;have HB:=n3_;clear n0_ n1_ n2_ n3_;(try clear hb);(try clear hb2);(try clear hk);(try clear hi);(try clear ho0);obtain ⟨Ao18,co18,eo18⟩:=Kd.R_slice HO231.out;subst eo18;have p232:0≤(x7_2:Int):=of_decide_eq_true (by first|(with_reducible assumption)|assumption);have q232:x7_2<(t229.length:Int):=of_decide_eq_true (by first|(with_reducible assumption)|assumption);obtain ⟨ad232,e232,hx232_0⟩:=Kd.at_string (Kd.R_reads' HO231.out).2.2 x7_2 p232 q232;cases e232;replace p232:=eq_true p232;replace q232:=eq_true q232))
         (try simp only [Act.put,List.setIfInBounds_toArray,List.set_cons_zero,List.set_cons_succ])
         go_cut [44] (fun v44 wc=>∃ (kq:Nat) (x44_15:Bool),v44=.bool x44_15∧Aside0 (spec_l4event.j2 kq a1 x6_2 x7_2 x44_15 a0_0 l0_1=some (r1,r2,r3,r4))∧Aside0 (kq≤k2)∧Aside0 (wc.heap[gb227]?=some (.cells #[.int .i64 a0_0,(.slice A0_1 l0_1.length c0_1)] 31 (0,0)))∧Aside0 (wc.heap[gb228]?=some (.cells #[.int .i64 x229000_2,.int .i64 x229001_2,.int .i64 x229002_2] 52 (0,0)))∧Aside0 (Below w.heap.size w wc))
         case first =>
          have H:=HC16.out
          clear HC16
          by_cases c19:(a1.size:Int)<(((rdOf ByteArray.empty t229 x7_2) ++ (⟨#[32]⟩:ByteArray)).size:Int)
          ·rw [if_pos c19] at H
           have c19n1:(a1.size:Int)<((rdOf ByteArray.empty t229 x7_2).size:Int)+1:=by have:=c19;rw [ByteArray.size_append] at this;have e:(⟨#[32]⟩:ByteArray).size=1:=rfl;omega
           have c19n2:decide ((a1.size:Int)<((rdOf ByteArray.empty t229 x7_2).size:Int)+1)=true:=decide_eq_true c19n1
           have c19n3:((a1.size:Int)<((rdOf ByteArray.empty t229 x7_2).size:Int)+1)=True:=eq_true c19n1
           clear c19n1
           have c19b0:decide ((a1.size:Int)<(((rdOf ByteArray.empty t229 x7_2) ++ (⟨#[32]⟩:ByteArray)).size:Int))=true:=decide_eq_true c19
           have c19b1:decide (a1.size<((rdOf ByteArray.empty t229 x7_2) ++ (⟨#[32]⟩:ByteArray)).size)=true:=decide_eq_true (Int.ofNat_lt.mp c19)
           clear c19
           (first|rw [c19b0]|(simp only [i64_w,i32_w];rw [c19b0])|skip)
           have H':=Aside0.mk H
           clear H
           go_wp2
           go_meet
           case rel=>exact ⟨_,(true),(by first|rfl|(simp;done)|(simp [*];done)),H',⟨by have:=HJ2.out;have:=HK2.out;first|omega|exact Nat.le_refl _⟩,⟨by (with_reducible repeat (first|refine blk_drewN ?_ _|refine blk_drew ?_|refine blk_alloc ?_ _));exact BK227.out⟩,⟨by (with_reducible repeat (first|refine blk_drewN ?_ _|refine blk_drew ?_|refine blk_alloc ?_ _));exact BK228.out⟩,⟨by repeat (first|(with_reducible first|exact HB.out|apply below_alloc|apply pw_below_drewN|apply below_drew1|refine below_set ?_ GE227.out|refine below_set ?_ GE228.out)|exact HB.out)⟩⟩
          rw [if_neg c19] at H
          have c19n1:¬ ((a1.size:Int)<((rdOf ByteArray.empty t229 x7_2).size:Int)+1):=by have:=c19;rw [ByteArray.size_append] at this;have e:(⟨#[32]⟩:ByteArray).size=1:=rfl;omega
          have c19n2:decide ((a1.size:Int)<((rdOf ByteArray.empty t229 x7_2).size:Int)+1)=false:=decide_eq_false c19n1
          have c19n3:((a1.size:Int)<((rdOf ByteArray.empty t229 x7_2).size:Int)+1)=False:=eq_false c19n1
          clear c19n1
          have c19b0:decide ((a1.size:Int)<(((rdOf ByteArray.empty t229 x7_2) ++ (⟨#[32]⟩:ByteArray)).size:Int))=false:=decide_eq_false c19
          have c19b1:decide (a1.size<((rdOf ByteArray.empty t229 x7_2) ++ (⟨#[32]⟩:ByteArray)).size)=false:=decide_eq_false (fun h=>c19 (Int.ofNat_lt.mpr h))
          clear c19
          (first|rw [c19b0]|(simp only [i64_w,i32_w];rw [c19b0])|skip)
          by_cases c20:0≤(((rdOf ByteArray.empty t229 x7_2) ++ (⟨#[32]⟩:ByteArray)).size:Int)
          ·rw [if_pos c20] at H
           have c20b0:=eq_true c20
           have c20b1:decide (0≤(((rdOf ByteArray.empty t229 x7_2) ++ (⟨#[32]⟩:ByteArray)).size:Int))=true:=decide_eq_true c20
           by_cases c21:(((rdOf ByteArray.empty t229 x7_2) ++ (⟨#[32]⟩:ByteArray)).size:Int)≤(a1.size:Int)
           ·rw [if_pos c21] at H
            have c21b0:=eq_true c21
            have c21b1:decide ((((rdOf ByteArray.empty t229 x7_2) ++ (⟨#[32]⟩:ByteArray)).size:Int)≤(a1.size:Int))=true:=decide_eq_true c21
            have c21n2:(((rdOf ByteArray.empty t229 x7_2).size:Int)+1≤(a1.size:Int))=True:=eq_true (by have:=c21;rw [ByteArray.size_append] at this;have e:(⟨#[32]⟩:ByteArray).size=1:=rfl;omega)
            have c21n3:(0≤((rdOf ByteArray.empty t229 x7_2).size:Int)+1∧((rdOf ByteArray.empty t229 x7_2).size:Int)+1≤(a1.size:Int))=True:=eq_true ⟨by omega,by have:=c21;rw [ByteArray.size_append] at this;have e:(⟨#[32]⟩:ByteArray).size=1:=rfl;omega⟩
            have c21n4:(0≤((rdOf ByteArray.empty t229 x7_2).size:Int)+1)=True:=eq_true (by omega)
            have c21e:((((rdOf ByteArray.empty t229 x7_2) ++ (⟨#[32]⟩:ByteArray)).size:Int)).toNat=(rdOf ByteArray.empty t229 x7_2).size+1:=by rw [Int.toNat_natCast,ByteArray.size_append];rfl
            have H':=Aside0.mk H
            clear H
            go_wp2
            go_meet
            case rel=>exact ⟨_,(((a1.extract 0 ((((rdOf ByteArray.empty t229 x7_2) ++ (⟨#[32]⟩:ByteArray)).size:Int):Int).toNat).toList != ((rdOf ByteArray.empty t229 x7_2) ++ (⟨#[32]⟩:ByteArray)).toList)),(by first|rfl|(rw [c21e];simp [bne];done)|(simp;done)|(simp [*];done)),H',⟨by have:=HJ2.out;have:=HK2.out;first|omega|exact Nat.le_refl _⟩,⟨by (with_reducible repeat (first|refine blk_drewN ?_ _|refine blk_drew ?_|refine blk_alloc ?_ _));exact BK227.out⟩,⟨by (with_reducible repeat (first|refine blk_drewN ?_ _|refine blk_drew ?_|refine blk_alloc ?_ _));exact BK228.out⟩,⟨by repeat (first|(with_reducible first|exact HB.out|apply below_alloc|apply pw_below_drewN|apply below_drew1|refine below_set ?_ GE227.out|refine below_set ?_ GE228.out)|exact HB.out)⟩⟩
           rw [if_neg c21] at H
           exact absurd H (by simp)
          rw [if_neg c20] at H
          exact absurd H (by simp)
         case rest =>
          clear HC16
          try clear c1
          try clear c2
          try clear p2
          try clear q2
          try clear hx2
          try clear c3
          try clear c5
          try clear c6
          try clear c8
          try clear c8b0
          try clear c9
          try clear c11
          try clear c11b0
          try clear c13
          try clear c13b0
          try clear c14
          try clear c14b0
          try clear c15
          try clear c15b0
          try clear c15b1
          try clear c15b2
          try clear c19
          try clear c19b0
          try clear c19b1
          try clear c20
          try clear c20b0
          try clear c20b1
          try clear c21
          try clear c21b0
          try clear c21b1
          try clear hcz10_0
          try clear hcz10_1
          try clear hcz7_0
          try clear hcz7_1
          try clear hfz10_0
          try clear hfz10_1
          try clear hfz7_0
          try clear hfz7_1
          try clear hx232_0
          try clear p2
          try clear p232
          try clear q232
          obtain ⟨kq,x44_15,rfl,HA,HJ15,BK227,BK228,HB⟩:=hcut
          cases kq with
          | zero=>exact absurd HA.out (by simp [spec_l4event.j2])
          | succ kj15 =>
           have H:=HA.out
           clear HA
           simp only [spec_l4event.j2] at H
           by_cases c22:x44_15=true
           ·subst c22
            have H1:(spec_l4event.l0 kj15 a1 x6_2 (wrap64 (x7_2+1)) a0_0 l0_1)=some (r1,r2,r3,r4):=by rw [if_pos rfl] at H;exact H
            clear H
            have H:=H1
            clear H1
            have H':=Aside0.mk H
            clear H
            go_wp2
            go_roundg kj15
            case measure=>have:=HJ2.out;have:=HK2.out;have:=HJ15.out;omega
            case rel=>exact ⟨(wrap64 (x7_2+1)),(x229000_2),(x229001_2),(x229002_2),(by first|rfl|(simp;done)|(simp [*];done)),H',⟨by have:=HJ2.out;have:=HK2.out;have:=HJ15.out;omega⟩,⟨by (with_reducible repeat (first|refine blk_drewN ?_ _|refine blk_drew ?_|refine blk_alloc ?_ _));exact BK227.out⟩,⟨by (with_reducible repeat (first|refine blk_drewN ?_ _|refine blk_drew ?_|refine blk_alloc ?_ _));exact BK228.out⟩,⟨by repeat (first|(with_reducible first|exact HB.out|apply below_alloc|apply pw_below_drewN|apply below_drew1|refine below_set ?_ GE227.out|refine below_set ?_ GE228.out)|exact HB.out)⟩⟩
           replace c22:=Bool.eq_false_iff.mpr c22
           subst c22
           have H1:(spec_l4event.l1 kj15 a1 x6_2 x7_2 0 a0_0 l0_1)=some (r1,r2,r3,r4):=by rw [if_neg (show ¬ (false=true) by decide)] at H;exact H
           clear H
           have H:=H1
           clear H1
           have H':=Aside0.mk H
           clear H
           go_wp2
           go_loopg [10] kj15 (fun kq v10 w'=>∃ (x10_4:Int) (x229000_4:Int) (x229001_4:Int) (x229002_4:Int),v10=.int .i64 x10_4∧Aside0 (spec_l4event.l1 kq a1 x6_2 x7_2 x10_4 a0_0 l0_1=some (r1,r2,r3,r4))∧Aside0 (kq≤kj15)∧Aside0 (w'.heap[gb227]?=some (.cells #[.int .i64 a0_0,(.slice A0_1 l0_1.length c0_1)] 31 (0,0)))∧Aside0 (w'.heap[gb228]?=some (.cells #[.int .i64 x229000_4,.int .i64 x229001_4,.int .i64 x229002_4] 52 (0,0)))∧Aside0 (Below w.heap.size w w'))
           case atStart=>exact ⟨(0),(x229000_2),(x229001_2),(x229002_2),(by first|rfl|(simp;done)|(simp [*];done)),H',⟨Nat.le_refl _⟩,⟨by (with_reducible repeat (first|refine blk_drewN ?_ _|refine blk_drew ?_|refine blk_alloc ?_ _));exact BK227.out⟩,⟨by (with_reducible repeat (first|refine blk_drewN ?_ _|refine blk_drew ?_|refine blk_alloc ?_ _));exact BK228.out⟩,⟨by repeat (first|(with_reducible first|exact HB.out|apply below_alloc|apply pw_below_drewN|apply below_drew1|refine below_set ?_ GE227.out|refine below_set ?_ GE228.out)|exact HB.out)⟩⟩
           case round =>
            clear H'
            try clear c1
            try clear c2
            try clear p2
            try clear q2
            try clear hx2
            try clear c3
            try clear c5
            try clear c6
            try clear p6
            try clear c8
            try clear c8b0
            try clear c9
            try clear c11
            try clear c11b0
            try clear c13
            try clear c13b0
            try clear c14
            try clear c14b0
            try clear c15
            try clear c15b0
            try clear c15b1
            try clear c15b2
            try clear c19
            try clear c19b0
            try clear c19b1
            try clear c20
            try clear c20b0
            try clear c20b1
            try clear c21
            try clear c21b0
            try clear c21b1
            try clear c22
            try clear hcz10_0
            try clear hcz10_1
            try clear hcz7_0
            try clear hcz7_1
            try clear hfz10_0
            try clear hfz10_1
            try clear hfz7_0
            try clear hfz7_1
            try clear hx232_0
            try clear p2
            try clear p232
            try clear q2
            try clear q232
            obtain ⟨x10_4,x229000_4,x229001_4,x229002_4,rfl,HA,HK4,BK227,BK228,HB⟩:=hrel
            cases gk with
            | zero=>exact absurd HA.out (by simp [spec_l4event.l1])
            | succ k4 =>
             have H:=HA.out
             clear HA
             simp only [spec_l4event.l1] at H
             by_cases c23:x10_4<x6_2
             ·rw [if_pos c23] at H
              have c23b0:decide (x10_4<x6_2)=true:=decide_eq_true c23
              clear c23
              have H':=Aside0.mk H
              clear H
              go_wp2
              go_loopg [11] k4 (fun kq v11 w'=>∃ (x11_5:Int) (x229000_5:Int) (x229001_5:Int) (x229002_5:Int),v11=.int .i64 x11_5∧Aside0 (spec_l4event.l2 kq a1 x6_2 x7_2 x10_4 x11_5 a0_0 l0_1=some (r1,r2,r3,r4))∧Aside0 (kq≤k4)∧Aside0 (w'.heap[gb227]?=some (.cells #[.int .i64 a0_0,(.slice A0_1 l0_1.length c0_1)] 31 (0,0)))∧Aside0 (w'.heap[gb228]?=some (.cells #[.int .i64 x229000_5,.int .i64 x229001_5,.int .i64 x229002_5] 52 (0,0)))∧Aside0 (Below w.heap.size w w'))
              case atStart=>exact ⟨((-1)),(x229000_4),(x229001_4),(x229002_4),(by first|rfl|(simp;done)|(simp [*];done)),H',⟨Nat.le_refl _⟩,⟨by (with_reducible repeat (first|refine blk_drewN ?_ _|refine blk_drew ?_|refine blk_alloc ?_ _));exact BK227.out⟩,⟨by (with_reducible repeat (first|refine blk_drewN ?_ _|refine blk_drew ?_|refine blk_alloc ?_ _));exact BK228.out⟩,⟨by repeat (first|(with_reducible first|exact HB.out|apply below_alloc|apply pw_below_drewN|apply below_drew1|refine below_set ?_ GE227.out|refine below_set ?_ GE228.out)|exact HB.out)⟩⟩
              case round =>
               clear H'
               try clear c1
               try clear c2
               try clear p2
               try clear q2
               try clear hx2
               try clear c3
               try clear c5
               try clear c6
               try clear p6
               try clear c8
               try clear c8b0
               try clear c9
               try clear c11
               try clear c11b0
               try clear c13
               try clear c13b0
               try clear c14
               try clear c14b0
               try clear c15
               try clear c15b0
               try clear c15b1
               try clear c15b2
               try clear c19
               try clear c19b0
               try clear c19b1
               try clear c20
               try clear c20b0
               try clear c20b1
               try clear c21
               try clear c21b0
               try clear c21b1
               try clear c22
               try clear c23
               try clear c23b0
               try clear p23
               try clear q23
               try clear hx23
               try clear hcz10_0
               try clear hcz10_1
               try clear hcz7_0
               try clear hcz7_1
               try clear hfz10_0
               try clear hfz10_1
               try clear hfz7_0
               try clear hfz7_1
               try clear hx232_0
               try clear p2
               try clear p232
               try clear p6
               try clear q2
               try clear q232
               obtain ⟨x11_5,x229000_5,x229001_5,x229002_5,rfl,HA,HK5,BK227,BK228,HB⟩:=hrel
               cases gk with
               | zero=>exact absurd HA.out (by simp [spec_l4event.l2])
               | succ k5 =>
                have H:=HA.out
                clear HA
                simp only [spec_l4event.l2] at H
                by_cases c24:x11_5≤1
                ·rw [if_pos c24] at H
                 have c24b0:decide (x11_5≤1)=true:=decide_eq_true c24
                 clear c24
                 replace H:=Option.bind_eq_some_iff.mp H
                 obtain ⟨t234,A250,H⟩:=H
                 replace H:(if t234=true then ((spec_l4line.f x7_2 x10_4 x11_5).bind fun t235=>(if t235.toList=a1.toList then (some (x7_2,x10_4,x11_5,true)) else (spec_l4event.l2 k5 a1 x6_2 x7_2 x10_4 (wrap64 (x11_5+1)) a0_0 l0_1))) else (spec_l4event.l2 k5 a1 x6_2 x7_2 x10_4 (wrap64 (x11_5+1)) a0_0 l0_1))=some (r1,r2,r3,r4):=H
                 have A25:=Aside0.mk A250
                 clear A250
                 by_cases c26:t234=true
                 ·subst c26
                  have H1:((spec_l4line.f x7_2 x10_4 x11_5).bind fun t235=>(if t235.toList=a1.toList then (some (x7_2,x10_4,x11_5,true)) else (spec_l4event.l2 k5 a1 x6_2 x7_2 x10_4 (wrap64 (x11_5+1)) a0_0 l0_1)))=some (r1,r2,r3,r4):=by rw [if_pos rfl] at H;exact H
                  clear H
                  have H:=H1
                  clear H1
                  replace H:=Option.bind_eq_some_iff.mp H
                  obtain ⟨t235,A270,H⟩:=H
                  replace H:(if t235.toList=a1.toList then (some (x7_2,x10_4,x11_5,true)) else (spec_l4event.l2 k5 a1 x6_2 x7_2 x10_4 (wrap64 (x11_5+1)) a0_0 l0_1))=some (r1,r2,r3,r4):=H
                  have A27:=Aside0.mk A270
                  clear A270
                  by_cases c28:t235.toList=a1.toList
                  ·rw [if_pos c28] at H
                   have c28b0:(t235.toList==a1.toList)=true:=beq_iff_eq.mpr c28
                   have c28b1:(t235.toList != a1.toList)=false:=bne_eq_false_iff_eq.mpr c28
                   clear c28
                   simp only [Option.some.injEq,Prod.mk.injEq] at H
                   obtain ⟨rfl,rfl,rfl,rfl⟩:=H
                   go_wp2_with (first|((with_reducible refine gate_dst (N:=12) rfl ?_);(try (refine gate_guard (by rfl) ?_;dsimp only));refine box_event ?hg (N:=12) ?hd (cs:=#[.int .i64 0,.int .i64 0,.int .i64 0]) (t:=52) ?hr ?_;(case hd=>rfl);(case hg=>rfl);(case hr=>first|(go_simp;done)|(go_simp;rfl));intro gb233 hg w29 hbox hb;have n0_:=Aside0.mk (blk_below (g:=gb227) (o:=.cells #[.int .i64 a0_0,.slice A0_1 l0_1.length c0_1] 31 (0,0)) (by (with_reducible repeat (first|refine blk_drewN ?_ _|refine blk_drew ?_|refine blk_alloc ?_ _));exact BK227.out) hb);have n1_:=Aside0.mk (blk_below (g:=gb228) (o:=.cells #[.int .i64 x229000_5,.int .i64 x229001_5,.int .i64 x229002_5] 52 (0,0)) (by (with_reducible repeat (first|refine blk_drewN ?_ _|refine blk_drew ?_|refine blk_alloc ?_ _));exact BK228.out) hb);have n2_:=Aside0.mk (below_step (by repeat (first|(with_reducible first|exact HB.out|apply below_alloc|apply pw_below_drewN|apply below_drew1|refine below_set ?_ GE227.out|refine below_set ?_ GE228.out)|exact HB.out)) hb);have n3_:=Aside0.mk (hbox);have n4_:=Aside0.mk ((by rw [hg];exact (below_size (by repeat (first|(with_reducible first|exact HB.out|apply below_alloc|apply pw_below_drewN|apply below_drew1|refine below_set ?_ GE227.out|refine below_set ?_ GE228.out)|exact HB.out))):w.heap.size≤gb233));have n5_:=Aside0.mk ((by rw [hg];exact (below_size (by repeat (first|(with_reducible first|exact HB.out|apply below_alloc|apply pw_below_drewN|apply below_drew1|refine below_set ?_ GE227.out|refine below_set ?_ GE228.out)|exact HB.out))):w.heap.size≤gb233));have n6_:=Aside0.mk ((by rw [hg];exact Nat.ne_of_lt (blk_lt (g:=gb227) (o:=.cells #[.int .i64 a0_0,.slice A0_1 l0_1.length c0_1] 31 (0,0)) (by (with_reducible repeat (first|refine blk_drewN ?_ _|refine blk_drew ?_|refine blk_alloc ?_ _));exact BK227.out)):gb227 ≠ gb233));have n7_:=Aside0.mk ((by rw [hg];exact Nat.ne_of_gt (blk_lt (g:=gb227) (o:=.cells #[.int .i64 a0_0,.slice A0_1 l0_1.length c0_1] 31 (0,0)) (by (with_reducible repeat (first|refine blk_drewN ?_ _|refine blk_drew ?_|refine blk_alloc ?_ _));exact BK227.out)):gb233 ≠ gb227));have n8_:=Aside0.mk ((by rw [hg];exact Nat.ne_of_lt (blk_lt (g:=gb228) (o:=.cells #[.int .i64 x229000_5,.int .i64 x229001_5,.int .i64 x229002_5] 52 (0,0)) (by (with_reducible repeat (first|refine blk_drewN ?_ _|refine blk_drew ?_|refine blk_alloc ?_ _));exact BK228.out)):gb228 ≠ gb233));have n9_:=Aside0.mk ((by rw [hg];exact Nat.ne_of_gt (blk_lt (g:=gb228) (o:=.cells #[.int .i64 x229000_5,.int .i64 x229001_5,.int .i64 x229002_5] 52 (0,0)) (by (with_reducible repeat (first|refine blk_drewN ?_ _|refine blk_drew ?_|refine blk_alloc ?_ _));exact BK228.out)):gb233 ≠ gb228));clear BK227;clear BK228;clear HB;have BK227:=n0_;have BK228:=n1_;have HB:=n2_;have BK233:=n3_;have GW233:=n4_;have GE233:=n5_;have NB227_233:=n6_;have NB233_227:=n7_;have NB228_233:=n8_;have NB233_228:=n9_;clear n0_ n1_ n2_ n3_ n4_ n5_ n6_ n7_ n8_ n9_;clear hb hbox hg;have hnb30:=NB233_227.out;have hnc30:=NB227_233.out;have hnb31:=NB233_228.out;have hnc31:=NB228_233.out;have hcz32_0:w29.cell? ⟨gb233,0,none⟩=some (.int .i64 0):=(blk_cell BK233.out 0).trans rfl;have hcz32_1:w29.cell? ⟨gb233,1,none⟩=some (.int .i64 0):=(blk_cell BK233.out 1).trans rfl;have hcz32_2:w29.cell? ⟨gb233,2,none⟩=some (.int .i64 0):=(blk_cell BK233.out 2).trans rfl;have hfz32_0:=blk_frozen BK233.out 0;have hfz32_1:=blk_frozen BK233.out 1;have hfz32_2:=blk_frozen BK233.out 2;have hnb33:=NB227_228.out;have hnc33:=NB228_227.out;have hcz34_0:w29.cell? ⟨gb227,0,none⟩=some (.int .i64 a0_0):=(blk_cell BK227.out 0).trans rfl;have hcz34_1:w29.cell? ⟨gb227,1,none⟩=some (.slice A0_1 l0_1.length c0_1):=(blk_cell BK227.out 1).trans rfl;have hfz34_0:=blk_frozen BK227.out 0;have hfz34_1:=blk_frozen BK227.out 1)|((with_reducible refine gate_callee (f:=26) rfl ?_);refine goesL_ (some 60) rfl rfl Tryd.func26 (by kernel_rfl) rfl #[.agg #[.int .i64 a0_0,.slice A0_1 l0_1.length c0_1],.agg #[.int .i64 x7_2,.int .i64 x10_4,.int .i64 x11_5]] rfl (by (try simp only [List.map_toArray,List.map_cons,List.map_nil]);first|done|rfl|(simp only [List.length_drop,List.length_take];rfl)) ?_;(with_reducible refine (spec_EventOk.calls k5 a0_0 _ _ l0_1 x7_2 x10_4 x11_5 true _ ?side1 ?side2 A25.out).mono ?_);(case side1=>exact Kd.C_below HR0_1.out (by repeat (first|(with_reducible first|exact HB.out|apply below_alloc|apply pw_below_drewN|apply below_drew1|refine below_set ?_ GE227.out|refine below_set ?_ GE228.out|refine below_set ?_ GE233.out)|exact HB.out)));(case side2=>exact HC0_1.out);rintro e w35 ⟨rfl,hb⟩;refine ⟨_,rfl,?_⟩;have n0_:=Aside0.mk (blk_below (g:=gb227) (o:=.cells #[.int .i64 a0_0,.slice A0_1 l0_1.length c0_1] 31 (0,0)) (by (with_reducible repeat (first|refine blk_drewN ?_ _|refine blk_drew ?_|refine blk_alloc ?_ _));refine blk_far ?_ NB227_233.out _;(with_reducible repeat (first|refine blk_drewN ?_ _|refine blk_drew ?_|refine blk_alloc ?_ _));refine blk_far ?_ NB227_233.out _;(with_reducible repeat (first|refine blk_drewN ?_ _|refine blk_drew ?_|refine blk_alloc ?_ _));refine blk_far ?_ NB227_233.out _;(with_reducible repeat (first|refine blk_drewN ?_ _|refine blk_drew ?_|refine blk_alloc ?_ _));exact BK227.out) hb);have n1_:=Aside0.mk (blk_below (g:=gb228) (o:=.cells #[.int .i64 x229000_5,.int .i64 x229001_5,.int .i64 x229002_5] 52 (0,0)) (by (with_reducible repeat (first|refine blk_drewN ?_ _|refine blk_drew ?_|refine blk_alloc ?_ _));refine blk_far ?_ NB228_233.out _;(with_reducible repeat (first|refine blk_drewN ?_ _|refine blk_drew ?_|refine blk_alloc ?_ _));refine blk_far ?_ NB228_233.out _;(with_reducible repeat (first|refine blk_drewN ?_ _|refine blk_drew ?_|refine blk_alloc ?_ _));refine blk_far ?_ NB228_233.out _;(with_reducible repeat (first|refine blk_drewN ?_ _|refine blk_drew ?_|refine blk_alloc ?_ _));exact BK228.out) hb);have n2_:=Aside0.mk (blk_below (g:=gb233) (o:=.cells #[.int .i64 x7_2,.int .i64 x10_4,.int .i64 x11_5] 52 (0,0)) (by (with_reducible repeat (first|refine blk_drewN ?_ _|refine blk_drew ?_|refine blk_alloc ?_ _));refine blk_put (cs:=#[.int .i64 x7_2,.int .i64 x10_4,.int .i64 0]) ?_ 2 _ rfl;(with_reducible repeat (first|refine blk_drewN ?_ _|refine blk_drew ?_|refine blk_alloc ?_ _));refine blk_put (cs:=#[.int .i64 x7_2,.int .i64 0,.int .i64 0]) ?_ 1 _ rfl;(with_reducible repeat (first|refine blk_drewN ?_ _|refine blk_drew ?_|refine blk_alloc ?_ _));refine blk_put (cs:=#[.int .i64 0,.int .i64 0,.int .i64 0]) ?_ 0 _ rfl;(with_reducible repeat (first|refine blk_drewN ?_ _|refine blk_drew ?_|refine blk_alloc ?_ _));exact BK233.out) hb);have n3_:=Aside0.mk (below_step (by repeat (first|(with_reducible first|exact HB.out|apply below_alloc|apply pw_below_drewN|apply below_drew1|refine below_set ?_ GE227.out|refine below_set ?_ GE228.out|refine below_set ?_ GE233.out)|exact HB.out)) hb);clear BK227;clear BK228;clear BK233;clear HB;have BK227:=n0_;have BK228:=n1_;have BK233:=n2_;have HB:=n3_;clear n0_ n1_ n2_ n3_;(try clear hb);(try clear hb2);(try clear hk);(try clear hi);have hcz36_0:w35.cell? ⟨gb233,0,none⟩=some (.int .i64 x7_2):=(blk_cell BK233.out 0).trans rfl;have hcz36_1:w35.cell? ⟨gb233,1,none⟩=some (.int .i64 x10_4):=(blk_cell BK233.out 1).trans rfl;have hcz36_2:w35.cell? ⟨gb233,2,none⟩=some (.int .i64 x11_5):=(blk_cell BK233.out 2).trans rfl;have hfz36_0:=blk_frozen BK233.out 0;have hfz36_1:=blk_frozen BK233.out 1;have hfz36_2:=blk_frozen BK233.out 2)|(go_at_call 27;(with_reducible refine (spec_l4line.calls x7_2 x10_4 x11_5 t235 _ A27.out).mono ?_);rintro e w37 ⟨rfl,hb⟩;have n0_:=Aside0.mk (blk_below (g:=gb227) (o:=.cells #[.int .i64 a0_0,.slice A0_1 l0_1.length c0_1] 31 (0,0)) (by (with_reducible repeat (first|refine blk_drewN ?_ _|refine blk_drew ?_|refine blk_alloc ?_ _));exact BK227.out) hb);have n1_:=Aside0.mk (blk_below (g:=gb228) (o:=.cells #[.int .i64 x229000_5,.int .i64 x229001_5,.int .i64 x229002_5] 52 (0,0)) (by (with_reducible repeat (first|refine blk_drewN ?_ _|refine blk_drew ?_|refine blk_alloc ?_ _));exact BK228.out) hb);have n2_:=Aside0.mk (blk_below (g:=gb233) (o:=.cells #[.int .i64 x7_2,.int .i64 x10_4,.int .i64 x11_5] 52 (0,0)) (by (with_reducible repeat (first|refine blk_drewN ?_ _|refine blk_drew ?_|refine blk_alloc ?_ _));exact BK233.out) hb);have n3_:=Aside0.mk (below_step (by repeat (first|(with_reducible first|exact HB.out|apply below_alloc|apply pw_below_drewN|apply below_drew1|refine below_set ?_ GE227.out|refine below_set ?_ GE228.out|refine below_set ?_ GE233.out)|exact HB.out)) hb);clear BK227;clear BK228;clear BK233;clear HB;have BK227:=n0_;have BK228:=n1_;have BK233:=n2_;have HB:=n3_;clear n0_ n1_ n2_ n3_;(try clear hb);(try clear hb2);(try clear hk);(try clear hi);have hcz38_0:w37.cell? ⟨gb233,0,none⟩=some (.int .i64 x7_2):=(blk_cell BK233.out 0).trans rfl;have hcz38_1:w37.cell? ⟨gb233,1,none⟩=some (.int .i64 x10_4):=(blk_cell BK233.out 1).trans rfl;have hcz38_2:w37.cell? ⟨gb233,2,none⟩=some (.int .i64 x11_5):=(blk_cell BK233.out 2).trans rfl;have hfz38_0:=blk_frozen BK233.out 0;have hfz38_1:=blk_frozen BK233.out 1;have hfz38_2:=blk_frozen BK233.out 2;have hcz39_0:w37.cell? ⟨gb228,0,none⟩=some (.int .i64 x229000_5):=(blk_cell BK228.out 0).trans rfl;have hcz39_1:w37.cell? ⟨gb228,1,none⟩=some (.int .i64 x229001_5):=(blk_cell BK228.out 1).trans rfl;have hcz39_2:w37.cell? ⟨gb228,2,none⟩=some (.int .i64 x229002_5):=(blk_cell BK228.out 2).trans rfl;have hfz39_0:=blk_frozen BK228.out 0;have hfz39_1:=blk_frozen BK228.out 1;have hfz39_2:=blk_frozen BK228.out 2))
                   refine bodyPost_ret (results_ct rfl _ _ gb228 52 #[.int .i64 x7_2,.int .i64 x10_4,.int .i64 x11_5] (0,0) _ rfl (by (with_reducible repeat (first|refine blk_drewN ?_ _|refine blk_drew ?_|refine blk_alloc ?_ _));refine blk_put (cs:=#[.int .i64 x7_2,.int .i64 x10_4,.int .i64 x229002_5]) ?_ 2 _ rfl;(with_reducible repeat (first|refine blk_drewN ?_ _|refine blk_drew ?_|refine blk_alloc ?_ _));refine blk_put (cs:=#[.int .i64 x7_2,.int .i64 x229001_5,.int .i64 x229002_5]) ?_ 1 _ rfl;(with_reducible repeat (first|refine blk_drewN ?_ _|refine blk_drew ?_|refine blk_alloc ?_ _));refine blk_put (cs:=#[.int .i64 x229000_5,.int .i64 x229001_5,.int .i64 x229002_5]) ?_ 0 _ rfl;(with_reducible repeat (first|refine blk_drewN ?_ _|refine blk_drew ?_|refine blk_alloc ?_ _));exact BK228.out) Tryd.underlying52 rfl (by kernel_rfl)) rfl ?_
                   exact ⟨by first|rfl|(simp [errW_none,errW_some] <;> rfl)|(simp [*,errW_none,errW_some] <;> rfl),by repeat (first|(with_reducible first|exact HB.out|apply below_alloc|apply pw_below_drewN|apply below_drew1|refine below_set ?_ GE227.out|refine below_set ?_ GE228.out|refine below_set ?_ GE233.out)|exact HB.out)⟩
                  rw [if_neg c28] at H
                  have c28b0:(t235.toList==a1.toList)=false:=beq_eq_false_iff_ne.mpr c28
                  have c28b1:(t235.toList != a1.toList)=true:=bne_iff_ne.mpr c28
                  have H':=Aside0.mk H
                  clear H
                  go_wp2_with (first|((with_reducible refine gate_dst (N:=12) rfl ?_);(try (refine gate_guard (by rfl) ?_;dsimp only));refine box_event ?hg (N:=12) ?hd (cs:=#[.int .i64 0,.int .i64 0,.int .i64 0]) (t:=52) ?hr ?_;(case hd=>rfl);(case hg=>rfl);(case hr=>first|(go_simp;done)|(go_simp;rfl));intro gb233 hg w40 hbox hb;have n0_:=Aside0.mk (blk_below (g:=gb227) (o:=.cells #[.int .i64 a0_0,.slice A0_1 l0_1.length c0_1] 31 (0,0)) (by (with_reducible repeat (first|refine blk_drewN ?_ _|refine blk_drew ?_|refine blk_alloc ?_ _));exact BK227.out) hb);have n1_:=Aside0.mk (blk_below (g:=gb228) (o:=.cells #[.int .i64 x229000_5,.int .i64 x229001_5,.int .i64 x229002_5] 52 (0,0)) (by (with_reducible repeat (first|refine blk_drewN ?_ _|refine blk_drew ?_|refine blk_alloc ?_ _));exact BK228.out) hb);have n2_:=Aside0.mk (below_step (by repeat (first|(with_reducible first|exact HB.out|apply below_alloc|apply pw_below_drewN|apply below_drew1|refine below_set ?_ GE227.out|refine below_set ?_ GE228.out)|exact HB.out)) hb);have n3_:=Aside0.mk (hbox);have n4_:=Aside0.mk ((by rw [hg];exact (below_size (by repeat (first|(with_reducible first|exact HB.out|apply below_alloc|apply pw_below_drewN|apply below_drew1|refine below_set ?_ GE227.out|refine below_set ?_ GE228.out)|exact HB.out))):w.heap.size≤gb233));have n5_:=Aside0.mk ((by rw [hg];exact (below_size (by repeat (first|(with_reducible first|exact HB.out|apply below_alloc|apply pw_below_drewN|apply below_drew1|refine below_set ?_ GE227.out|refine below_set ?_ GE228.out)|exact HB.out))):w.heap.size≤gb233));have n6_:=Aside0.mk ((by rw [hg];exact Nat.ne_of_lt (blk_lt (g:=gb227) (o:=.cells #[.int .i64 a0_0,.slice A0_1 l0_1.length c0_1] 31 (0,0)) (by (with_reducible repeat (first|refine blk_drewN ?_ _|refine blk_drew ?_|refine blk_alloc ?_ _));exact BK227.out)):gb227 ≠ gb233));have n7_:=Aside0.mk ((by rw [hg];exact Nat.ne_of_gt (blk_lt (g:=gb227) (o:=.cells #[.int .i64 a0_0,.slice A0_1 l0_1.length c0_1] 31 (0,0)) (by (with_reducible repeat (first|refine blk_drewN ?_ _|refine blk_drew ?_|refine blk_alloc ?_ _));exact BK227.out)):gb233 ≠ gb227));have n8_:=Aside0.mk ((by rw [hg];exact Nat.ne_of_lt (blk_lt (g:=gb228) (o:=.cells #[.int .i64 x229000_5,.int .i64 x229001_5,.int .i64 x229002_5] 52 (0,0)) (by (with_reducible repeat (first|refine blk_drewN ?_ _|refine blk_drew ?_|refine blk_alloc ?_ _));exact BK228.out)):gb228 ≠ gb233));have n9_:=Aside0.mk ((by rw [hg];exact Nat.ne_of_gt (blk_lt (g:=gb228) (o:=.cells #[.int .i64 x229000_5,.int .i64 x229001_5,.int .i64 x229002_5] 52 (0,0)) (by (with_reducible repeat (first|refine blk_drewN ?_ _|refine blk_drew ?_|refine blk_alloc ?_ _));exact BK228.out)):gb233 ≠ gb228));clear BK227;clear BK228;clear HB;have BK227:=n0_;have BK228:=n1_;have HB:=n2_;have BK233:=n3_;have GW233:=n4_;have GE233:=n5_;have NB227_233:=n6_;have NB233_227:=n7_;have NB228_233:=n8_;have NB233_228:=n9_;clear n0_ n1_ n2_ n3_ n4_ n5_ n6_ n7_ n8_ n9_;clear hb hbox hg;have hnb41:=NB233_227.out;have hnc41:=NB227_233.out;have hnb42:=NB233_228.out;have hnc42:=NB228_233.out;have hcz43_0:w40.cell? ⟨gb233,0,none⟩=some (.int .i64 0):=(blk_cell BK233.out 0).trans rfl;have hcz43_1:w40.cell? ⟨gb233,1,none⟩=some (.int .i64 0):=(blk_cell BK233.out 1).trans rfl;have hcz43_2:w40.cell? ⟨gb233,2,none⟩=some (.int .i64 0):=(blk_cell BK233.out 2).trans rfl;have hfz43_0:=blk_frozen BK233.out 0;have hfz43_1:=blk_frozen BK233.out 1;have hfz43_2:=blk_frozen BK233.out 2;have hnb44:=NB227_228.out;have hnc44:=NB228_227.out;have hcz45_0:w40.cell? ⟨gb227,0,none⟩=some (.int .i64 a0_0):=(blk_cell BK227.out 0).trans rfl;have hcz45_1:w40.cell? ⟨gb227,1,none⟩=some (.slice A0_1 l0_1.length c0_1):=(blk_cell BK227.out 1).trans rfl;have hfz45_0:=blk_frozen BK227.out 0;have hfz45_1:=blk_frozen BK227.out 1)|((with_reducible refine gate_callee (f:=26) rfl ?_);refine goesL_ (some 60) rfl rfl Tryd.func26 (by kernel_rfl) rfl #[.agg #[.int .i64 a0_0,.slice A0_1 l0_1.length c0_1],.agg #[.int .i64 x7_2,.int .i64 x10_4,.int .i64 x11_5]] rfl (by (try simp only [List.map_toArray,List.map_cons,List.map_nil]);first|done|rfl|(simp only [List.length_drop,List.length_take];rfl)) ?_;(with_reducible refine (spec_EventOk.calls k5 a0_0 _ _ l0_1 x7_2 x10_4 x11_5 true _ ?side1 ?side2 A25.out).mono ?_);(case side1=>exact Kd.C_below HR0_1.out (by repeat (first|(with_reducible first|exact HB.out|apply below_alloc|apply pw_below_drewN|apply below_drew1|refine below_set ?_ GE227.out|refine below_set ?_ GE228.out|refine below_set ?_ GE233.out)|exact HB.out)));(case side2=>exact HC0_1.out);rintro e w46 ⟨rfl,hb⟩;refine ⟨_,rfl,?_⟩;have n0_:=Aside0.mk (blk_below (g:=gb227) (o:=.cells #[.int .i64 a0_0,.slice A0_1 l0_1.length c0_1] 31 (0,0)) (by (with_reducible repeat (first|refine blk_drewN ?_ _|refine blk_drew ?_|refine blk_alloc ?_ _));refine blk_far ?_ NB227_233.out _;(with_reducible repeat (first|refine blk_drewN ?_ _|refine blk_drew ?_|refine blk_alloc ?_ _));refine blk_far ?_ NB227_233.out _;(with_reducible repeat (first|refine blk_drewN ?_ _|refine blk_drew ?_|refine blk_alloc ?_ _));refine blk_far ?_ NB227_233.out _;(with_reducible repeat (first|refine blk_drewN ?_ _|refine blk_drew ?_|refine blk_alloc ?_ _));exact BK227.out) hb);have n1_:=Aside0.mk (blk_below (g:=gb228) (o:=.cells #[.int .i64 x229000_5,.int .i64 x229001_5,.int .i64 x229002_5] 52 (0,0)) (by (with_reducible repeat (first|refine blk_drewN ?_ _|refine blk_drew ?_|refine blk_alloc ?_ _));refine blk_far ?_ NB228_233.out _;(with_reducible repeat (first|refine blk_drewN ?_ _|refine blk_drew ?_|refine blk_alloc ?_ _));refine blk_far ?_ NB228_233.out _;(with_reducible repeat (first|refine blk_drewN ?_ _|refine blk_drew ?_|refine blk_alloc ?_ _));refine blk_far ?_ NB228_233.out _;(with_reducible repeat (first|refine blk_drewN ?_ _|refine blk_drew ?_|refine blk_alloc ?_ _));exact BK228.out) hb);have n2_:=Aside0.mk (blk_below (g:=gb233) (o:=.cells #[.int .i64 x7_2,.int .i64 x10_4,.int .i64 x11_5] 52 (0,0)) (by (with_reducible repeat (first|refine blk_drewN ?_ _|refine blk_drew ?_|refine blk_alloc ?_ _));refine blk_put (cs:=#[.int .i64 x7_2,.int .i64 x10_4,.int .i64 0]) ?_ 2 _ rfl;(with_reducible repeat (first|refine blk_drewN ?_ _|refine blk_drew ?_|refine blk_alloc ?_ _));refine blk_put (cs:=#[.int .i64 x7_2,.int .i64 0,.int .i64 0]) ?_ 1 _ rfl;(with_reducible repeat (first|refine blk_drewN ?_ _|refine blk_drew ?_|refine blk_alloc ?_ _));refine blk_put (cs:=#[.int .i64 0,.int .i64 0,.int .i64 0]) ?_ 0 _ rfl;(with_reducible repeat (first|refine blk_drewN ?_ _|refine blk_drew ?_|refine blk_alloc ?_ _));exact BK233.out) hb);have n3_:=Aside0.mk (below_step (by repeat (first|(with_reducible first|exact HB.out|apply below_alloc|apply pw_below_drewN|apply below_drew1|refine below_set ?_ GE227.out|refine below_set ?_ GE228.out|refine below_set ?_ GE233.out)|exact HB.out)) hb);clear BK227;clear BK228;clear BK233;clear HB;have BK227:=n0_;have BK228:=n1_;have BK233:=n2_;have HB:=n3_;clear n0_ n1_ n2_ n3_;(try clear hb);(try clear hb2);(try clear hk);(try clear hi);have hcz47_0:w46.cell? ⟨gb233,0,none⟩=some (.int .i64 x7_2):=(blk_cell BK233.out 0).trans rfl;have hcz47_1:w46.cell? ⟨gb233,1,none⟩=some (.int .i64 x10_4):=(blk_cell BK233.out 1).trans rfl;have hcz47_2:w46.cell? ⟨gb233,2,none⟩=some (.int .i64 x11_5):=(blk_cell BK233.out 2).trans rfl;have hfz47_0:=blk_frozen BK233.out 0;have hfz47_1:=blk_frozen BK233.out 1;have hfz47_2:=blk_frozen BK233.out 2)|(go_at_call 27;(with_reducible refine (spec_l4line.calls x7_2 x10_4 x11_5 t235 _ A27.out).mono ?_);rintro e w48 ⟨rfl,hb⟩;have n0_:=Aside0.mk (blk_below (g:=gb227) (o:=.cells #[.int .i64 a0_0,.slice A0_1 l0_1.length c0_1] 31 (0,0)) (by (with_reducible repeat (first|refine blk_drewN ?_ _|refine blk_drew ?_|refine blk_alloc ?_ _));exact BK227.out) hb);have n1_:=Aside0.mk (blk_below (g:=gb228) (o:=.cells #[.int .i64 x229000_5,.int .i64 x229001_5,.int .i64 x229002_5] 52 (0,0)) (by (with_reducible repeat (first|refine blk_drewN ?_ _|refine blk_drew ?_|refine blk_alloc ?_ _));exact BK228.out) hb);have n2_:=Aside0.mk (blk_below (g:=gb233) (o:=.cells #[.int .i64 x7_2,.int .i64 x10_4,.int .i64 x11_5] 52 (0,0)) (by (with_reducible repeat (first|refine blk_drewN ?_ _|refine blk_drew ?_|refine blk_alloc ?_ _));exact BK233.out) hb);have n3_:=Aside0.mk (below_step (by repeat (first|(with_reducible first|exact HB.out|apply below_alloc|apply pw_below_drewN|apply below_drew1|refine below_set ?_ GE227.out|refine below_set ?_ GE228.out|refine below_set ?_ GE233.out)|exact HB.out)) hb);clear BK227;clear BK228;clear BK233;clear HB;have BK227:=n0_;have BK228:=n1_;have BK233:=n2_;have HB:=n3_;clear n0_ n1_ n2_ n3_;(try clear hb);(try clear hb2);(try clear hk);(try clear hi)))
                  go_roundg k5
                  case measure=>have:=HJ2.out;have:=HK2.out;have:=HJ15.out;have:=HK4.out;have:=HK5.out;omega
                  case rel=>exact ⟨(wrap64 (x11_5+1)),(x229000_5),(x229001_5),(x229002_5),(by first|rfl|(simp;done)|(simp [*];done)),H',⟨by have:=HJ2.out;have:=HK2.out;have:=HJ15.out;have:=HK4.out;have:=HK5.out;omega⟩,⟨by (with_reducible repeat (first|refine blk_drewN ?_ _|refine blk_drew ?_|refine blk_alloc ?_ _));exact BK227.out⟩,⟨by (with_reducible repeat (first|refine blk_drewN ?_ _|refine blk_drew ?_|refine blk_alloc ?_ _));exact BK228.out⟩,⟨by repeat (first|(with_reducible first|exact HB.out|apply below_alloc|apply pw_below_drewN|apply below_drew1|refine below_set ?_ GE227.out|refine below_set ?_ GE228.out|refine below_set ?_ GE233.out)|exact HB.out)⟩⟩
                 replace c26:=Bool.eq_false_iff.mpr c26
                 subst c26
                 have H1:(spec_l4event.l2 k5 a1 x6_2 x7_2 x10_4 (wrap64 (x11_5+1)) a0_0 l0_1)=some (r1,r2,r3,r4):=by rw [if_neg (show ¬ (false=true) by decide)] at H;exact H
                 clear H
                 have H:=H1
                 clear H1
                 have H':=Aside0.mk H
                 clear H
                 go_wp2_with (first|((with_reducible refine gate_dst (N:=12) rfl ?_);(try (refine gate_guard (by rfl) ?_;dsimp only));refine box_event ?hg (N:=12) ?hd (cs:=#[.int .i64 0,.int .i64 0,.int .i64 0]) (t:=52) ?hr ?_;(case hd=>rfl);(case hg=>rfl);(case hr=>first|(go_simp;done)|(go_simp;rfl));intro gb233 hg w49 hbox hb;have n0_:=Aside0.mk (blk_below (g:=gb227) (o:=.cells #[.int .i64 a0_0,.slice A0_1 l0_1.length c0_1] 31 (0,0)) (by (with_reducible repeat (first|refine blk_drewN ?_ _|refine blk_drew ?_|refine blk_alloc ?_ _));exact BK227.out) hb);have n1_:=Aside0.mk (blk_below (g:=gb228) (o:=.cells #[.int .i64 x229000_5,.int .i64 x229001_5,.int .i64 x229002_5] 52 (0,0)) (by (with_reducible repeat (first|refine blk_drewN ?_ _|refine blk_drew ?_|refine blk_alloc ?_ _));exact BK228.out) hb);have n2_:=Aside0.mk (below_step (by repeat (first|(with_reducible first|exact HB.out|apply below_alloc|apply pw_below_drewN|apply below_drew1|refine below_set ?_ GE227.out|refine below_set ?_ GE228.out)|exact HB.out)) hb);have n3_:=Aside0.mk (hbox);have n4_:=Aside0.mk ((by rw [hg];exact (below_size (by repeat (first|(with_reducible first|exact HB.out|apply below_alloc|apply pw_below_drewN|apply below_drew1|refine below_set ?_ GE227.out|refine below_set ?_ GE228.out)|exact HB.out))):w.heap.size≤gb233));have n5_:=Aside0.mk ((by rw [hg];exact (below_size (by repeat (first|(with_reducible first|exact HB.out|apply below_alloc|apply pw_below_drewN|apply below_drew1|refine below_set ?_ GE227.out|refine below_set ?_ GE228.out)|exact HB.out))):w.heap.size≤gb233));have n6_:=Aside0.mk ((by rw [hg];exact Nat.ne_of_lt (blk_lt (g:=gb227) (o:=.cells #[.int .i64 a0_0,.slice A0_1 l0_1.length c0_1] 31 (0,0)) (by (with_reducible repeat (first|refine blk_drewN ?_ _|refine blk_drew ?_|refine blk_alloc ?_ _));exact BK227.out)):gb227 ≠ gb233));have n7_:=Aside0.mk ((by rw [hg];exact Nat.ne_of_gt (blk_lt (g:=gb227) (o:=.cells #[.int .i64 a0_0,.slice A0_1 l0_1.length c0_1] 31 (0,0)) (by (with_reducible repeat (first|refine blk_drewN ?_ _|refine blk_drew ?_|refine blk_alloc ?_ _));exact BK227.out)):gb233 ≠ gb227));have n8_:=Aside0.mk ((by rw [hg];exact Nat.ne_of_lt (blk_lt (g:=gb228) (o:=.cells #[.int .i64 x229000_5,.int .i64 x229001_5,.int .i64 x229002_5] 52 (0,0)) (by (with_reducible repeat (first|refine blk_drewN ?_ _|refine blk_drew ?_|refine blk_alloc ?_ _));exact BK228.out)):gb228 ≠ gb233));have n9_:=Aside0.mk ((by rw [hg];exact Nat.ne_of_gt (blk_lt (g:=gb228) (o:=.cells #[.int .i64 x229000_5,.int .i64 x229001_5,.int .i64 x229002_5] 52 (0,0)) (by (with_reducible repeat (first|refine blk_drewN ?_ _|refine blk_drew ?_|refine blk_alloc ?_ _));exact BK228.out)):gb233 ≠ gb228));clear BK227;clear BK228;clear HB;have BK227:=n0_;have BK228:=n1_;have HB:=n2_;have BK233:=n3_;have GW233:=n4_;have GE233:=n5_;have NB227_233:=n6_;have NB233_227:=n7_;have NB228_233:=n8_;have NB233_228:=n9_;clear n0_ n1_ n2_ n3_ n4_ n5_ n6_ n7_ n8_ n9_;clear hb hbox hg;have hnb50:=NB233_227.out;have hnc50:=NB227_233.out;have hnb51:=NB233_228.out;have hnc51:=NB228_233.out;have hcz52_0:w49.cell? ⟨gb233,0,none⟩=some (.int .i64 0):=(blk_cell BK233.out 0).trans rfl;have hcz52_1:w49.cell? ⟨gb233,1,none⟩=some (.int .i64 0):=(blk_cell BK233.out 1).trans rfl;have hcz52_2:w49.cell? ⟨gb233,2,none⟩=some (.int .i64 0):=(blk_cell BK233.out 2).trans rfl;have hfz52_0:=blk_frozen BK233.out 0;have hfz52_1:=blk_frozen BK233.out 1;have hfz52_2:=blk_frozen BK233.out 2;have hnb53:=NB227_228.out;have hnc53:=NB228_227.out;have hcz54_0:w49.cell? ⟨gb227,0,none⟩=some (.int .i64 a0_0):=(blk_cell BK227.out 0).trans rfl;have hcz54_1:w49.cell? ⟨gb227,1,none⟩=some (.slice A0_1 l0_1.length c0_1):=(blk_cell BK227.out 1).trans rfl;have hfz54_0:=blk_frozen BK227.out 0;have hfz54_1:=blk_frozen BK227.out 1)|((with_reducible refine gate_callee (f:=26) rfl ?_);refine goesL_ (some 60) rfl rfl Tryd.func26 (by kernel_rfl) rfl #[.agg #[.int .i64 a0_0,.slice A0_1 l0_1.length c0_1],.agg #[.int .i64 x7_2,.int .i64 x10_4,.int .i64 x11_5]] rfl (by (try simp only [List.map_toArray,List.map_cons,List.map_nil]);first|done|rfl|(simp only [List.length_drop,List.length_take];rfl)) ?_;(with_reducible refine (spec_EventOk.calls k5 a0_0 _ _ l0_1 x7_2 x10_4 x11_5 false _ ?side1 ?side2 A25.out).mono ?_);(case side1=>exact Kd.C_below HR0_1.out (by repeat (first|(with_reducible first|exact HB.out|apply below_alloc|apply pw_below_drewN|apply below_drew1|refine below_set ?_ GE227.out|refine below_set ?_ GE228.out|refine below_set ?_ GE233.out)|exact HB.out)));(case side2=>exact HC0_1.out);rintro e w55 ⟨rfl,hb⟩;refine ⟨_,rfl,?_⟩;have n0_:=Aside0.mk (blk_below (g:=gb227) (o:=.cells #[.int .i64 a0_0,.slice A0_1 l0_1.length c0_1] 31 (0,0)) (by (with_reducible repeat (first|refine blk_drewN ?_ _|refine blk_drew ?_|refine blk_alloc ?_ _));refine blk_far ?_ NB227_233.out _;(with_reducible repeat (first|refine blk_drewN ?_ _|refine blk_drew ?_|refine blk_alloc ?_ _));refine blk_far ?_ NB227_233.out _;(with_reducible repeat (first|refine blk_drewN ?_ _|refine blk_drew ?_|refine blk_alloc ?_ _));refine blk_far ?_ NB227_233.out _;(with_reducible repeat (first|refine blk_drewN ?_ _|refine blk_drew ?_|refine blk_alloc ?_ _));exact BK227.out) hb);have n1_:=Aside0.mk (blk_below (g:=gb228) (o:=.cells #[.int .i64 x229000_5,.int .i64 x229001_5,.int .i64 x229002_5] 52 (0,0)) (by (with_reducible repeat (first|refine blk_drewN ?_ _|refine blk_drew ?_|refine blk_alloc ?_ _));refine blk_far ?_ NB228_233.out _;(with_reducible repeat (first|refine blk_drewN ?_ _|refine blk_drew ?_|refine blk_alloc ?_ _));refine blk_far ?_ NB228_233.out _;(with_reducible repeat (first|refine blk_drewN ?_ _|refine blk_drew ?_|refine blk_alloc ?_ _));refine blk_far ?_ NB228_233.out _;(with_reducible repeat (first|refine blk_drewN ?_ _|refine blk_drew ?_|refine blk_alloc ?_ _));exact BK228.out) hb);have n2_:=Aside0.mk (blk_below (g:=gb233) (o:=.cells #[.int .i64 x7_2,.int .i64 x10_4,.int .i64 x11_5] 52 (0,0)) (by (with_reducible repeat (first|refine blk_drewN ?_ _|refine blk_drew ?_|refine blk_alloc ?_ _));refine blk_put (cs:=#[.int .i64 x7_2,.int .i64 x10_4,.int .i64 0]) ?_ 2 _ rfl;(with_reducible repeat (first|refine blk_drewN ?_ _|refine blk_drew ?_|refine blk_alloc ?_ _));refine blk_put (cs:=#[.int .i64 x7_2,.int .i64 0,.int .i64 0]) ?_ 1 _ rfl;(with_reducible repeat (first|refine blk_drewN ?_ _|refine blk_drew ?_|refine blk_alloc ?_ _));refine blk_put (cs:=#[.int .i64 0,.int .i64 0,.int .i64 0]) ?_ 0 _ rfl;(with_reducible repeat (first|refine blk_drewN ?_ _|refine blk_drew ?_|refine blk_alloc ?_ _));exact BK233.out) hb);have n3_:=Aside0.mk (below_step (by repeat (first|(with_reducible first|exact HB.out|apply below_alloc|apply pw_below_drewN|apply below_drew1|refine below_set ?_ GE227.out|refine below_set ?_ GE228.out|refine below_set ?_ GE233.out)|exact HB.out)) hb);clear BK227;clear BK228;clear BK233;clear HB;have BK227:=n0_;have BK228:=n1_;have BK233:=n2_;have HB:=n3_;clear n0_ n1_ n2_ n3_;(try clear hb);(try clear hb2);(try clear hk);(try clear hi)))
                 go_roundg k5
                 case measure=>have:=HJ2.out;have:=HK2.out;have:=HJ15.out;have:=HK4.out;have:=HK5.out;omega
                 case rel=>exact ⟨(wrap64 (x11_5+1)),(x229000_5),(x229001_5),(x229002_5),(by first|rfl|(simp;done)|(simp [*];done)),H',⟨by have:=HJ2.out;have:=HK2.out;have:=HJ15.out;have:=HK4.out;have:=HK5.out;omega⟩,⟨by (with_reducible repeat (first|refine blk_drewN ?_ _|refine blk_drew ?_|refine blk_alloc ?_ _));exact BK227.out⟩,⟨by (with_reducible repeat (first|refine blk_drewN ?_ _|refine blk_drew ?_|refine blk_alloc ?_ _));exact BK228.out⟩,⟨by repeat (first|(with_reducible first|exact HB.out|apply below_alloc|apply pw_below_drewN|apply below_drew1|refine below_set ?_ GE227.out|refine below_set ?_ GE228.out|refine below_set ?_ GE233.out)|exact HB.out)⟩⟩
                rw [if_neg c24] at H
                have c24b0:decide (x11_5≤1)=false:=decide_eq_false c24
                clear c24
                have H':=Aside0.mk H
                clear H
                go_wp2
                go_roundg k5
                case measure=>have:=HJ2.out;have:=HK2.out;have:=HJ15.out;have:=HK4.out;have:=HK5.out;omega
                case rel=>exact ⟨(wrap64 (x10_4+1)),(x229000_5),(x229001_5),(x229002_5),(by first|rfl|(simp;done)|(simp [*];done)),H',⟨by have:=HJ2.out;have:=HK2.out;have:=HJ15.out;have:=HK4.out;have:=HK5.out;omega⟩,⟨by (with_reducible repeat (first|refine blk_drewN ?_ _|refine blk_drew ?_|refine blk_alloc ?_ _));exact BK227.out⟩,⟨by (with_reducible repeat (first|refine blk_drewN ?_ _|refine blk_drew ?_|refine blk_alloc ?_ _));exact BK228.out⟩,⟨by repeat (first|(with_reducible first|exact HB.out|apply below_alloc|apply pw_below_drewN|apply below_drew1|refine below_set ?_ GE227.out|refine below_set ?_ GE228.out)|exact HB.out)⟩⟩
             rw [if_neg c23] at H
             have c23b0:decide (x10_4<x6_2)=false:=decide_eq_false c23
             clear c23
             have H':=Aside0.mk H
             clear H
             go_wp2
             go_roundg k4
             case measure=>have:=HJ2.out;have:=HK2.out;have:=HJ15.out;have:=HK4.out;omega
             case rel=>exact ⟨(wrap64 (x7_2+1)),(x229000_4),(x229001_4),(x229002_4),(by first|rfl|(simp;done)|(simp [*];done)),H',⟨by have:=HJ2.out;have:=HK2.out;have:=HJ15.out;have:=HK4.out;omega⟩,⟨by (with_reducible repeat (first|refine blk_drewN ?_ _|refine blk_drew ?_|refine blk_alloc ?_ _));exact BK227.out⟩,⟨by (with_reducible repeat (first|refine blk_drewN ?_ _|refine blk_drew ?_|refine blk_alloc ?_ _));exact BK228.out⟩,⟨by repeat (first|(with_reducible first|exact HB.out|apply below_alloc|apply pw_below_drewN|apply below_drew1|refine below_set ?_ GE227.out|refine below_set ?_ GE228.out)|exact HB.out)⟩⟩
        rw [if_neg c15] at H
        exact absurd H (by simp)
       rw [if_neg c14] at H
       exact absurd H (by simp)
      rw [if_neg c13] at H
      exact absurd H (by simp)
     rw [if_neg c11] at H
     have c11b0:decide (x7_2≤5)=false:=decide_eq_false c11
     clear c11
     simp only [Option.some.injEq,Prod.mk.injEq] at H
     obtain ⟨rfl,rfl,rfl,rfl⟩:=H
     have hnb56:=NB228_227.out
     have hnc56:=NB227_228.out
     have hcz57_0:wr.cell? ⟨gb228,0,none⟩=some (.int .i64 x229000_2):=(blk_cell BK228.out 0).trans rfl
     have hcz57_1:wr.cell? ⟨gb228,1,none⟩=some (.int .i64 x229001_2):=(blk_cell BK228.out 1).trans rfl
     have hcz57_2:wr.cell? ⟨gb228,2,none⟩=some (.int .i64 x229002_2):=(blk_cell BK228.out 2).trans rfl
     have hfz57_0:=blk_frozen BK228.out 0
     have hfz57_1:=blk_frozen BK228.out 1
     have hfz57_2:=blk_frozen BK228.out 2
     go_wp2
     refine bodyPost_ret (results_ct rfl _ _ gb228 52 #[.int .i64 0,.int .i64 0,.int .i64 0] (0,0) _ rfl (by (with_reducible repeat (first|refine blk_drewN ?_ _|refine blk_drew ?_|refine blk_alloc ?_ _));refine blk_put (cs:=#[.int .i64 0,.int .i64 0,.int .i64 x229002_2]) ?_ 2 _ rfl;(with_reducible repeat (first|refine blk_drewN ?_ _|refine blk_drew ?_|refine blk_alloc ?_ _));refine blk_put (cs:=#[.int .i64 0,.int .i64 x229001_2,.int .i64 x229002_2]) ?_ 1 _ rfl;(with_reducible repeat (first|refine blk_drewN ?_ _|refine blk_drew ?_|refine blk_alloc ?_ _));refine blk_put (cs:=#[.int .i64 x229000_2,.int .i64 x229001_2,.int .i64 x229002_2]) ?_ 0 _ rfl;(with_reducible repeat (first|refine blk_drewN ?_ _|refine blk_drew ?_|refine blk_alloc ?_ _));exact BK228.out) Tryd.underlying52 rfl (by kernel_rfl)) rfl ?_
     exact ⟨by first|rfl|(simp [errW_none,errW_some] <;> rfl)|(simp [*,errW_none,errW_some] <;> rfl),by repeat (first|(with_reducible first|exact HB.out|apply below_alloc|apply pw_below_drewN|apply below_drew1|refine below_set ?_ GE227.out|refine below_set ?_ GE228.out)|exact HB.out)⟩
end Go.Proofs.YtpdnabhpkdchjaaDoor.P
namespace Go.Proofs.YtpdnabhpkdchjaaDoor.P
open Go Go.RowKit Go.Proofs.YtpdnabhpkdchjaaDoorW.PrintWords Go.Proofs.YtpdnabhpkdchjaaDoorW.PrintLast Go.Proofs.YtpdnabhpkdchjaaDoorW.PrintMore
set_option linter.unusedVariables false
set_option linter.unusedSimpArgs false
theorem bs_toList (s : List UInt8) : (bs s).toList = s := by
  have h : ∀ (d : Nat) (i : Nat) (r : List UInt8), i + d = s.length → ByteArray.toList.loop (bs s) i r = r.reverse ++ s.drop i := by
    intro d
    induction d with
    | zero =>
      intro i r hi
      rw [ByteArray.toList.loop, if_neg (by rw [bs_size]; omega), List.drop_of_length_le (by omega), List.append_nil]
    | succ d ih =>
      intro i r hi
      have hl : i < s.length := by omega
      rw [ByteArray.toList.loop, if_pos (by rw [bs_size]; omega), ih (i + 1) _ (by omega), List.reverse_cons, List.append_assoc]
      congr 1
      rw [List.drop_eq_getElem_cons hl]
      simp [ByteArray.get!, bs, hl]
  have := h s.length 0 [] (by omega)
  rw [ByteArray.toList, this]
  simp
theorem bs_take (s : List UInt8) (i j : Nat) : (bs s).extract i j = bs ((s.take j).drop i) := by
  apply ByteArray.ext
  simp [bs, ByteArray.data_extract]
  rw [List.drop_take]
section
variable {n : Int} {l : List S98} {s : List UInt8}
theorem l4_l2 {op of : Int} (ho : 1 ≤ op ∧ op ≤ 5) (hf : 0 ≤ of ∧ of ≤ 119) (HN : (∀ e, Tells n l s e → op < e.f0 ∨ op = e.f0 ∧ of + 1 ≤ e.f1) → Ev (fun k => spec_l4event.l1 k (bs s) (most n l) op (of + 1) n l) (evRes n l s)) (d : Nat) :
    ∀ dir : Int, dir + d = 2 → -1 ≤ dir → (∀ e, Tells n l s e → op < e.f0 ∨ op = e.f0 ∧ (of < e.f1 ∨ of = e.f1 ∧ dir ≤ e.f2)) → Ev (fun k => spec_l4event.l2 k (bs s) (most n l) op of dir n l) (evRes n l s) := by
  induction d with
  | zero =>
    intro dir hd h0 inv
    refine Ev.step (fun k => ?_) (HN (fun e he => ?_))
    · rw [spec_l4event.l2, if_neg (by omega), wrap_id (by omega) (by omega)]
    · have := inv e he
      have hp := ev_parts he.1
      omega
  | succ d ih =>
    intro dir hd h0 inv
    refine Ev.step (fun k => by rw [spec_l4event.l2, if_pos (by omega), wrap_id (x := dir + 1) (by omega) (by omega)]) ?_
    refine Ev.bind (specEventOk_ev n l op of dir) ?_
    have next : (∀ e, Tells n l s e → ¬ (e.f0 = op ∧ e.f1 = of ∧ e.f2 = dir)) → Ev (fun k => spec_l4event.l2 k (bs s) (most n l) op of (dir + 1) n l) (evRes n l s) := by
      intro hno
      refine ih (dir + 1) (by omega) (by omega) (fun e he => ?_)
      have h1 := inv e he
      have h2 := hno e he
      omega
    by_cases he : eventOk n l op of dir = true
    · refine Ev.ite_pos he ?_
      refine Ev.call (line_f ho hf ⟨h0, by omega⟩) ?_
      by_cases hs : lineN op of dir = s
      · refine Ev.ite_pos (by rw [bs_toList, bs_toList]; exact hs) ?_
        rw [evRes_some (e := ⟨op, of, dir⟩) ⟨he, hs⟩]
        exact Ev.now _
      · refine Ev.ite_neg (by rw [bs_toList, bs_toList]; exact hs) (next (fun e ht hc => ?_))
        obtain ⟨h1, h2, h3⟩ := hc
        have := ht.2
        rw [h1, h2, h3] at this
        exact hs this
    · refine Ev.ite_neg he (next (fun e ht hc => ?_))
      obtain ⟨h1, h2, h3⟩ := hc
      have := ht.1
      rw [h1, h2, h3] at this
      exact he this
theorem l4_l1 {op : Int} (hm : most n l ≤ 120) (ho : 1 ≤ op ∧ op ≤ 5) (HN : (∀ e, Tells n l s e → op + 1 ≤ e.f0) → Ev (fun k => spec_l4event.l0 k (bs s) (most n l) (op + 1) n l) (evRes n l s)) (d : Nat) :
    ∀ of : Int, (of + d = most n l ∨ most n l ≤ of ∧ d = 0 ∧ of ≤ 120) → 0 ≤ of → (∀ e, Tells n l s e → op < e.f0 ∨ op = e.f0 ∧ of ≤ e.f1) → Ev (fun k => spec_l4event.l1 k (bs s) (most n l) op of n l) (evRes n l s) := by
  induction d with
  | zero =>
    intro of hd h0 inv
    refine Ev.step (fun k => ?_) (HN (fun e he => ?_))
    · rw [spec_l4event.l1, if_neg (by omega), wrap_id (by omega) (by omega)]
    · have := inv e he
      have hp := ev_most he.1
      omega
  | succ d ih =>
    intro of hd h0 inv
    have hlt : of < most n l := by omega
    refine Ev.step (fun k => by rw [spec_l4event.l1, if_pos hlt]) ?_
    refine l4_l2 ho ⟨h0, by omega⟩ (fun hi => ih (of + 1) (by omega) (by omega) hi) 3 (-1) (by omega) (by omega) (fun e he => ?_)
    have := inv e he
    have hp := ev_parts he.1
    omega
theorem l4_l0 (hm : most n l ≤ 120) (d : Nat) :
    ∀ op : Int, op + d = 6 → 1 ≤ op → (∀ e, Tells n l s e → op ≤ e.f0) → Ev (fun k => spec_l4event.l0 k (bs s) (most n l) op n l) (evRes n l s) := by
  induction d with
  | zero =>
    intro op hd h0 inv
    refine Ev.step (f := fun _ => some (evRes n l s)) (fun k => ?_) (Ev.now _)
    rw [spec_l4event.l0, if_neg (by omega), evRes_none]
    intro e he
    have := inv e he
    have hp := ev_parts he.1
    omega
  | succ d ih =>
    intro op hd h0 inv
    have ho : 1 ≤ op ∧ op ≤ 5 := ⟨h0, by omega⟩
    have hw := word_len op.toNat
    have a1 : bs (wordB op.toNat) ++ (⟨#[32]⟩ : ByteArray) = bs (wordB op.toNat ++ [32]) := bytes_app _ [32]
    have next : (∀ e, Tells n l s e → ¬ e.f0 = op) → Ev (fun k => spec_l4event.l0 k (bs s) (most n l) (op + 1) n l) (evRes n l s) := by
      intro hno
      refine ih (op + 1) (by omega) (by omega) (fun e he => ?_)
      have := inv e he
      have := hno e he
      omega
    have pre : ∀ e, Tells n l s e → e.f0 = op → ∃ r, s = wordB op.toNat ++ [32] ++ r := by
      intro e he h
      refine ⟨Lib.decDigits e.f1.toNat ++ dirB e.f2, ?_⟩
      rw [← he.2, h]
      unfold lineN
      simp
    have j2t : ∀ b : Bool, (b = true → ∀ e, Tells n l s e → ¬ e.f0 = op) → Ev (fun k => spec_l4event.j2 k (bs s) (most n l) op b n l) (evRes n l s) := by
      intro b hb
      cases b with
      | true =>
        refine Ev.step (fun k => ?_) (next (hb rfl))
        rw [spec_l4event.j2, if_pos rfl, wrap_id (by omega) (by omega)]
      | false =>
        have l1s : Ev (fun k => spec_l4event.l1 k (bs s) (most n l) op 0 n l) (evRes n l s) := by
          by_cases hmn : 0 ≤ most n l
          · refine l4_l1 hm ho (fun hi => ih (op + 1) (by omega) (by omega) hi) (most n l).toNat 0 (by omega) (by omega) (fun e he => ?_)
            have := inv e he
            have hp := ev_parts he.1
            omega
          · refine l4_l1 hm ho (fun hi => ih (op + 1) (by omega) (by omega) hi) 0 0 (by omega) (by omega) (fun e he => ?_)
            have := inv e he
            have hp := ev_parts he.1
            omega
        refine Ev.step (fun k => ?_) l1s
        rw [spec_l4event.j2, if_neg (by simp)]
    refine Ev.step (fun k => by rw [spec_l4event.l0, if_pos (by omega), show spec_l4words.f = some _ from rfl, Option.bind_some, if_pos (by omega), if_pos (by show op < ((6 : Nat) : Int); omega), words_eq op ho, if_pos (by rw [bs_size]; omega), a1]) ?_
    by_cases hlt : s.length < (wordB op.toNat ++ [32]).length
    · refine Ev.ite_pos (by rw [bs_size, bs_size]; omega) (j2t true (fun _ e he hc => ?_))
      obtain ⟨r, hr⟩ := pre e he hc
      rw [hr] at hlt
      simp at hlt
    · refine Ev.ite_neg (by rw [bs_size, bs_size]; omega) ?_
      refine Ev.ite_pos (by omega) (Ev.ite_pos (by rw [bs_size, bs_size]; omega) ?_)
      refine j2t _ (fun hb e he hc => ?_)
      obtain ⟨r, hr⟩ := pre e he hc
      rw [bs_size, Int.toNat_natCast, bs_take, bs_toList, bs_toList, List.drop_zero] at hb
      rw [hr, List.take_left'] at hb
      · simp at hb
      · rfl
theorem l4event_ev (hl : layoutOk n l = 0) : Ev (fun k => spec_l4event.f k n l (bs s)) (evRes n l s) := by
  have hn := lay_n hl
  have hm : most n l ≤ 120 := by unfold most; split <;> omega
  have key : Ev (fun k => spec_l4event.j0 k (bs s) (most n l) n l) (evRes n l s) := by
    refine Ev.step (fun k => by rw [spec_l4event.j0]) (l4_l0 hm 5 1 (by omega) (by omega) (fun e he => ?_))
    have hp := ev_parts he.1
    omega
  unfold spec_l4event.f
  unfold most at key
  by_cases h : n > (l.length : Int)
  · rw [if_pos h] at key
    exact Ev.ite_pos h key
  · rw [if_neg h] at key
    exact Ev.ite_neg h key
end
end Go.Proofs.YtpdnabhpkdchjaaDoor.P
