/- The statement FnSweep holds of the given program, for every argument; there are no conditions. (Part 4 of 6.) -/
import Derived.Test.YtpdnabhpkdchjaaBFnSweep3
import Derived.Deep.RegionWith
namespace Go.Proofs.Ytpdnabhpkdchjaa.P
open Go Go.RowKit Go.Proofs.YtpdnabhpkdchjaaW.PrintWords Go.Proofs.YtpdnabhpkdchjaaW.PrintLast Go.Proofs.YtpdnabhpkdchjaaW.PrintMore
set_option linter.unusedVariables false
set_option linter.unusedSimpArgs false
def ip_T7 : Bool × List (List Nat × List Nat) := (true, [([], []), ([], []), ([1], [1]), ([0, 2], [0, 2]), ([3], [3]), ([4, 3], [4]), ([5], [5]), ([6, 5], [5, 6]), ([7, 5, 5], [5, 7]), ([8], [8]), ([9, 8], [8, 9]), ([8], [8]), ([8], [8]), ([12, 8], [8, 12]), ([11, 13, 8], [8, 11, 13]), ([14, 8], [8, 14]), ([15, 8], [8, 15]), ([10, 16, 8], [8, 10, 16]), ([8, 17, 5], [5, 8, 17]), ([5, 18], [5, 18]), ([19, 8], [19]), ([20], [20]), ([21, 20], [20, 21]), ([22, 20], [20, 22]), ([20, 23], [20, 23]), ([24, 20], [24]), ([25], [25]), ([26, 25], [25, 26]), ([25], [25]), ([28, 25], [25, 28]), ([29, 25], [25, 29]), ([27, 30, 25], [25, 27, 30]), ([25, 31], [25, 31]), ([32, 25], [32]), ([33], [33]), ([34, 33], [33, 34]), ([35, 33], [33, 35]), ([36, 33, 33], [33, 36]), ([37], [37]), ([38, 37], [37, 38]), ([39, 37], [37, 39]), ([37, 40, 33], [33, 37, 40]), ([33, 41], [33, 41])])
def ip_B7 : List Nat := [0, 0, 2, 7, 15, 31, 63, 127, 255, 511, 1023, 511, 511, 4607, 14847, 31231, 63999, 131071, 262143, 524287, 1048575, 2097151, 4194303, 8388607, 16777215, 33554431, 67108863, 134217727, 67108863, 335544319, 872415231, 2147483647, 4294967295, 8589934591, 17179869183, 34359738367, 68719476735, 137438953471, 274877906943, 549755813887, 1099511627775, 2199023255551, 4398046511103]
theorem ip_tab7 : rtab .any (opsOf Try.f75 7) = ip_T7 := by kernel_rfl
theorem ip_bits7 : waitsOk ip_T7.2 ip_B7 = true := by kernel_rfl
def ip_T33 : Bool × List (List Nat × List Nat) := (true, [([], []), ([], []), ([], []), ([2], [2]), ([1, 3], [1, 3]), ([4], [4]), ([5], [5]), ([], []), ([], []), ([8], [8]), ([7, 9], [7, 9]), ([10], [10]), ([11], [11]), ([6, 12], [6, 12]), ([13], [13]), ([0, 14], [0, 14]), ([15, 15, 0, 1, 2, 3, 4, 5, 6, 7, 8, 9, 10, 11, 12, 13, 14, 15], [0, 15])])
def ip_B33 : List Nat := [0, 0, 0, 4, 14, 30, 62, 0, 0, 256, 896, 1920, 3968, 8190, 16382, 32767, 65535]
theorem ip_tab33 : rtab .any (opsOf Try.f75 33) = ip_T33 := by kernel_rfl
theorem ip_bits33 : waitsOk ip_T33.2 ip_B33 = true := by kernel_rfl
theorem info146 : (Try.prog.info? 146).map (fun i => (i.zero, i.size, i.bytes)) = some (some (.agg #[(.int .i64 0), (.int .i64 0), (.int .i64 0)]), 3, 24) := by kernel_rfl
theorem goesV_ {P : Program} {ops : Array Oper} {Q : Exit → Act → World → Prop} {oi : Oper} {N : Option Tmp} {a : Act} {w : World} {K : Act → World → Prop} {f : FuncId} {fn : Func} {s : Operand} {as_ : Array Operand} {ts : Array TypeId} (hf : P.funcs[f]? = some fn) (hname : (fn.name == "runtime.NumGoroutine") = false) (hb : fn.body.isSome = true) (args : Array Value)
    (hw : Region.wanted oi (yielded ops a.tmps) = true) (hN : oi.dst = N) (hop : oi.op = .call { callee := .value s, args := as_, argTypes := ts }) (hs : a.eval s = .func (.func f) #[] #[]) (hargs : as_.map a.eval = args)
    (h : Calls P f args w fun e w' => ∃ v, e = .returned v ∧ K (a.put N v) w') : if Region.wanted oi (yielded ops a.tmps) = true then Oper.wp P oi a w K Q else K (a.put N undef) w := by
  refine call_ f args hw hN ?_ h
  have he := enters_ hf hname hb args w
  unfold execOp
  simp [hop, resolve, Deferred.ofValue, invoke, hs, hargs, he]
theorem takeU {P : Program} {md : Region.Mode} {ops : Array Oper} {T : Bool × List (List Nat × List Nat)} {B : List Nat} {Q : Exit → Act → World → Prop} {S : World → Prop} {ds : List Nat} {n k fuel k' j : Nat} {u : Bool} {N : Option Tmp} {a a' : Act} {w : World} {op : Op} {ty : TypeId} {pos : String} {af : Array Edge} (hk : k + 1 = k') (hi : ops[k]? = some ⟨N, op, ty, pos, af, some (j, u)⟩) (hw : Region.wanted ⟨N, op, ty, pos, af, some (j, u)⟩ (yielded ops a.tmps) = false) (hT : rtab md ops = T) (hB : waitsOk T.2 B = true) (hc : takeW T B ds (upto n k).toList (upto n k').toList k = true) (hQ : ∀ c a w, Q (.panic c) (a.put N undef) w → Q (.panic c) a w) (hS : S w) (ha : a.put N undef = a') (h : wpAnyLast P md ops Q S ds fuel (upto n k') a' w) : wpAnyLast P md ops Q S ds (fuel + 1) (upto n k) a w :=
  take_ (v := undef) (upto n k') hi rfl (take_ofW hT hB hc) hQ (Or.inr ⟨hw, rfl⟩) hS ha h
theorem lit_fresh2 {e : TypeId} {W : World} {b0 : Nat} {ok : Nat → Prop} {v : Value} {xs : List S56} (h : Kd.R k56 e W b0 ok v xs) : some W.heap.size ≠ v.ownBlock := fun he => Nat.lt_irrefl _ (Kd.R_lt h _ he.symm)
theorem lit_below2 {W w1 : World} (hg : W.grownBy w1 none) : Below W.heap.size W w1 := (Below.refl W.heap.size W).grown hg (Nat.le_refl _) (fun _ h => nomatch h)
def farB (x : Int) : Bool := decide (0 ≤ x) && decide (x ≤ 1000000)
set_option maxHeartbeats 4000000 in
set_option maxRecDepth 100000 in
theorem far_at {x : Int} {b : Bool} (hb : farB x = b) (w : World) : Calls Try.prog 119 #[.int .i64 x] w fun e w' => e = .returned (.bool b) ∧ w' = w := by
  rw [← hb]
  unfold farB
  by_cases h0 : 0 ≤ x
  · have h0' : decide (x ≥ 0) = true := decide_eq_true h0
    by_cases h1 : x ≤ 1000000
    · have h1' : decide (x ≤ 1000000) = true := decide_eq_true h1
      go_enter Try.func119, Try.ntmps119
      go_wp2_with fail
      go_ret
      exact ⟨by simp [h0, h1], rfl⟩
    · have h1' : decide (x ≤ 1000000) = false := decide_eq_false h1
      go_enter Try.func119, Try.ntmps119
      go_wp2_with fail
      go_ret
      exact ⟨by simp [h0, h1], rfl⟩
  · have h0' : decide (x ≥ 0) = false := decide_eq_false h0
    go_enter Try.func119, Try.ntmps119
    go_wp2_with fail
    go_ret
    exact ⟨by simp [h0], rfl⟩
theorem far_yes {x : Int} (h : farB x = true) : 0 ≤ x ∧ x ≤ 1000000 := by unfold farB at h; simpa using h
theorem post_no {p a c len d : Int} (hp : 0 ≤ p) (h : ((decide (p ≤ a) && decide (a ≤ 1000000)) && (decide (0 ≤ c) && decide (c < len)) && (decide (d = 1) || decide (d = -1))) = false) :
    farB a = false ∨ (farB a = true ∧ decide (a < p) = true) ∨ (farB a = true ∧ decide (a < p) = false ∧ decide (c < 0) = true) ∨ (farB a = true ∧ decide (a < p) = false ∧ decide (c < 0) = false ∧ decide (c ≥ len) = true) ∨ (farB a = true ∧ decide (a < p) = false ∧ decide (c < 0) = false ∧ decide (c ≥ len) = false ∧ (d != 1) = true ∧ (d != -1) = true) := by
  cases hf : farB a
  · exact .inl rfl
  · refine .inr ?_
    have hf := far_yes hf
    by_cases h1 : a < p
    · exact .inl ⟨rfl, decide_eq_true h1⟩
    · refine .inr ?_
      by_cases h2 : c < 0
      · exact .inl ⟨rfl, decide_eq_false h1, decide_eq_true h2⟩
      · refine .inr ?_
        by_cases h3 : c ≥ len
        · exact .inl ⟨rfl, decide_eq_false h1, decide_eq_false h2, decide_eq_true h3⟩
        · refine .inr ⟨rfl, decide_eq_false h1, decide_eq_false h2, decide_eq_false h3, ?_⟩
          rw [decide_eq_true (show p ≤ a by omega), decide_eq_true hf.2, decide_eq_true (show 0 ≤ c by omega), decide_eq_true (show c < len by omega)] at h
          simp at h
          simp [h]
theorem post_yes {p a c len d : Int} (hp : 0 ≤ p) (h : ((decide (p ≤ a) && decide (a ≤ 1000000)) && (decide (0 ≤ c) && decide (c < len)) && (decide (d = 1) || decide (d = -1))) = true) :
    farB a = true ∧ decide (a < p) = false ∧ decide (c < 0) = false ∧ decide (c ≥ len) = false ∧ ((d != 1) = false ∨ ((d != 1) = true ∧ (d != -1) = false)) := by
  simp only [Bool.and_eq_true, Bool.or_eq_true, decide_eq_true_eq] at h
  obtain ⟨⟨⟨h1, h2⟩, h3, h4⟩, h5⟩ := h
  refine ⟨by unfold farB; simp; omega, decide_eq_false (by omega), decide_eq_false (by omega), decide_eq_false (by omega), ?_⟩
  rcases h5 with rfl | rfl
  · exact .inl rfl
  · exact .inr ⟨rfl, rfl⟩
theorem bad_to {fr tt : Int} (h0 : 0 ≤ fr) (h : (decide (0 ≤ tt) && decide (tt ≤ 1000000)) = false) : (decide (fr ≤ tt) && decide (tt ≤ 1000000)) = false := by
  by_cases h1 : fr ≤ tt
  · rw [decide_eq_true (show 0 ≤ tt by omega), Bool.true_and] at h
    rw [h, Bool.and_false]
  · rw [decide_eq_false h1]; rfl
theorem prevP_pos {l : List S88} {ps : List S143} : ∀ {i : Nat}, postsTo l ps i = true → 0 ≤ prevP ps i
  | 0, _ => Int.le_refl _
  | i + 1, h => (post_in h i (Nat.lt_succ_self i)).1
theorem prevA_pos {ax : List Int} : ∀ {i : Nat}, axlesTo ax i = true → 0 ≤ prevA ax i
  | 0, _ => Int.le_refl _
  | i + 1, h => (axle_in h i (Nat.lt_succ_self i)).1
theorem axle_no {p a : Int} (hp : 0 ≤ p) (h : (decide (p ≤ a) && decide (a ≤ 1000000)) = false) : farB a = false ∨ (farB a = true ∧ decide (a < p) = true) := by
  cases hf : farB a
  · exact .inl rfl
  · have hf := far_yes hf
    refine .inr ⟨rfl, ?_⟩
    by_cases h1 : a < p
    · exact decide_eq_true h1
    · rw [decide_eq_true (show p ≤ a by omega), decide_eq_true hf.2] at h
      cases h
theorem axle_yes {p a : Int} (hp : 0 ≤ p) (h : (decide (p ≤ a) && decide (a ≤ 1000000)) = true) : farB a = true ∧ decide (a < p) = false := by
  simp only [Bool.and_eq_true, decide_eq_true_eq] at h
  exact ⟨by unfold farB; simp; omega, decide_eq_false (by omega)⟩
section
variable {w : World} {base m c : Nat} {ok : Nat → Prop} {xs : List S154} {A : Option Addr}
theorem sort_any (h : Kd.R k154 146 w base ok (.slice A m c) xs) (hx : xs.Nodup) (hb : ∀ x ∈ xs, BdM x) (hl : xs.length ≤ 1000000) :
    Calls Try.prog 120 #[.slice A m c, .func (.func 121) #[] #[]] w fun e w' => e = .returned (.tuple #[]) ∧ Kd.R k154 146 w' base ok (.slice A m c) (sortM xs) ∧ w.grownBy w' (Value.slice A m c).ownBlock := by
  cases xs with
  | nil =>
    have hm : m = 0 := (Kd.R_reads' h).1
    subst hm
    refine (sort_none A c w).mono ?_
    rintro e w' ⟨rfl, rfl⟩
    exact ⟨rfl, h, World.grownBy.refl _ _⟩
  | cons x xs =>
    obtain ⟨g, cg, e, -⟩ := Kd.R_form h (by simp)
    have hm := (Kd.R_reads' h).1
    cases e
    exact sort_is h hx hb hl
end
set_option maxHeartbeats 32000000 in
set_option maxRecDepth 100000 in
theorem ipass_no0 (n : Int) (A : Option Addr) (c : Nat) (l : List S88) (A1 : Option Addr) (c1 : Nat) (ps : List S143) (A2 : Option Addr) (c2 : Nat) (ax : List Int) (fr tt : Int) (w : World) (hr : Kd.C k88 w A l.length l) (hc : l.length ≤ c) (hr1 : Kd.C k143 w A1 ps.length ps) (hc1 : ps.length ≤ c1) (hr2 : Kd.C (Kd.int .i64) w A2 ax.length ax) (hc2 : ax.length ≤ c2) (hp : ps.length ≤ 1048576) (ha : ax.length ≤ 1048576) (k0 : Int) (t0 : layoutOk n l = k0) (hk0 : (k0 != 0) = true) :
    Calls Try.prog 75 #[.agg #[.int .i64 n, .slice A l.length c], .slice A1 ps.length c1, .slice A2 ax.length c2, .int .i64 fr, .int .i64 tt] w fun e w' => ∃ v0_ : Value, e = .returned v0_ ∧ Kd.R k56 56 w' w.heap.size (fun _ => True) v0_ ([]) ∧ Below w.heap.size w w' := by
  have HR := Aside0.mk hr
  have HC := Aside0.mk hc
  have HR1 := Aside0.mk hr1
  have HC1 := Aside0.mk hc1
  have HR2 := Aside0.mk hr2
  have HC2 := Aside0.mk hc2
  have T0 := Aside0.mk t0
  clear hr hc hr1 hc1 hr2 hc2 t0
  go_enter Try.func75, Try.ntmps75
  go_upto_region 2 with ((with_reducible refine gate_dst (N := 5) rfl ?_); refine box_event ?hg (N := 5) ?hd (cs := #[.int .i64 n, .slice A l.length c]) (t := 30) ?hr ?_; (case hd => rfl); (case hg => rfl); (case hr => first | (go_simp; done) | (go_simp; rfl)); intro gl el wl kl bl; clear el; have KL := Aside0.mk kl; have BL := Aside0.mk bl; clear kl bl)
  have kl0 : wl.cell? ⟨gl, 0, none⟩ = some (.int .i64 n) := (blk_cell KL.out 0).trans rfl
  have kl1 : wl.cell? ⟨gl, 1, none⟩ = some (.slice A l.length c) := (blk_cell KL.out 1).trans rfl
  go_wp2_with (first | (go_at_call 25; refine (lay_at T0.out (Kd.C_below HR.out BL.out) HC.out).mono ?_; rintro e w1 ⟨rfl, hb⟩; have KL := Aside0.mk (blk_below KL.out hb); have BL := Aside0.mk (below_step BL.out hb); clear hb kl0 kl1))
  go_ret
  exact ⟨_, rfl, Kd.R_nil _ _ _ _ _, BL.out⟩
set_option maxHeartbeats 32000000 in
set_option maxRecDepth 100000 in
theorem ipass_no1 (n : Int) (A : Option Addr) (c : Nat) (l : List S88) (A1 : Option Addr) (c1 : Nat) (ps : List S143) (A2 : Option Addr) (c2 : Nat) (ax : List Int) (fr tt : Int) (w : World) (hr : Kd.C k88 w A l.length l) (hc : l.length ≤ c) (hr1 : Kd.C k143 w A1 ps.length ps) (hc1 : ps.length ≤ c1) (hr2 : Kd.C (Kd.int .i64) w A2 ax.length ax) (hc2 : ax.length ≤ c2) (hp : ps.length ≤ 1048576) (ha : ax.length ≤ 1048576) (t0 : layoutOk n l = 0) (t1 : 120 < ps.length) :
    Calls Try.prog 75 #[.agg #[.int .i64 n, .slice A l.length c], .slice A1 ps.length c1, .slice A2 ax.length c2, .int .i64 fr, .int .i64 tt] w fun e w' => ∃ v0_ : Value, e = .returned v0_ ∧ Kd.R k56 56 w' w.heap.size (fun _ => True) v0_ ([]) ∧ Below w.heap.size w w' := by
  have HR := Aside0.mk hr
  have HC := Aside0.mk hc
  have HR1 := Aside0.mk hr1
  have HC1 := Aside0.mk hc1
  have HR2 := Aside0.mk hr2
  have HC2 := Aside0.mk hc2
  have T0 := Aside0.mk t0
  clear hr hc hr1 hc1 hr2 hc2 t0
  have d1 : decide ((120 : Int) < (ps.length : Int)) = true := decide_eq_true (by omega)
  have d1' : decide ((ps.length : Int) > 120) = true := d1
  go_enter Try.func75, Try.ntmps75
  go_upto_region 2 with ((with_reducible refine gate_dst (N := 5) rfl ?_); refine box_event ?hg (N := 5) ?hd (cs := #[.int .i64 n, .slice A l.length c]) (t := 30) ?hr ?_; (case hd => rfl); (case hg => rfl); (case hr => first | (go_simp; done) | (go_simp; rfl)); intro gl el wl kl bl; clear el; have KL := Aside0.mk kl; have BL := Aside0.mk bl; clear kl bl)
  have kl0 : wl.cell? ⟨gl, 0, none⟩ = some (.int .i64 n) := (blk_cell KL.out 0).trans rfl
  have kl1 : wl.cell? ⟨gl, 1, none⟩ = some (.slice A l.length c) := (blk_cell KL.out 1).trans rfl
  go_wp2_with (first | (go_at_call 25; refine (lay_at T0.out (Kd.C_below HR.out BL.out) HC.out).mono ?_; rintro e w1 ⟨rfl, hb⟩; have KL := Aside0.mk (blk_below KL.out hb); have BL := Aside0.mk (below_step BL.out hb); clear hb kl0 kl1))
  go_ret
  exact ⟨_, rfl, Kd.R_nil _ _ _ _ _, BL.out⟩
set_option maxHeartbeats 32000000 in
set_option maxRecDepth 100000 in
theorem ipass_no2 (n : Int) (A : Option Addr) (c : Nat) (l : List S88) (A1 : Option Addr) (c1 : Nat) (ps : List S143) (A2 : Option Addr) (c2 : Nat) (ax : List Int) (fr tt : Int) (w : World) (hr : Kd.C k88 w A l.length l) (hc : l.length ≤ c) (hr1 : Kd.C k143 w A1 ps.length ps) (hc1 : ps.length ≤ c1) (hr2 : Kd.C (Kd.int .i64) w A2 ax.length ax) (hc2 : ax.length ≤ c2) (hp : ps.length ≤ 1048576) (ha : ax.length ≤ 1048576) (t0 : layoutOk n l = 0) (t1 : ps.length ≤ 120) (t2 : 200 < ax.length) :
    Calls Try.prog 75 #[.agg #[.int .i64 n, .slice A l.length c], .slice A1 ps.length c1, .slice A2 ax.length c2, .int .i64 fr, .int .i64 tt] w fun e w' => ∃ v0_ : Value, e = .returned v0_ ∧ Kd.R k56 56 w' w.heap.size (fun _ => True) v0_ ([]) ∧ Below w.heap.size w w' := by
  have HR := Aside0.mk hr
  have HC := Aside0.mk hc
  have HR1 := Aside0.mk hr1
  have HC1 := Aside0.mk hc1
  have HR2 := Aside0.mk hr2
  have HC2 := Aside0.mk hc2
  have T0 := Aside0.mk t0
  clear hr hc hr1 hc1 hr2 hc2 t0
  have d1 : decide ((120 : Int) < (ps.length : Int)) = false := decide_eq_false (by omega)
  have d1' : decide ((ps.length : Int) > 120) = false := d1
  have d2 : decide ((200 : Int) < (ax.length : Int)) = true := decide_eq_true (by omega)
  have d2' : decide ((ax.length : Int) > 200) = true := d2
  have P1 := Aside0.mk t1
  go_enter Try.func75, Try.ntmps75
  go_upto_region 2 with ((with_reducible refine gate_dst (N := 5) rfl ?_); refine box_event ?hg (N := 5) ?hd (cs := #[.int .i64 n, .slice A l.length c]) (t := 30) ?hr ?_; (case hd => rfl); (case hg => rfl); (case hr => first | (go_simp; done) | (go_simp; rfl)); intro gl el wl kl bl; clear el; have KL := Aside0.mk kl; have BL := Aside0.mk bl; clear kl bl)
  have kl0 : wl.cell? ⟨gl, 0, none⟩ = some (.int .i64 n) := (blk_cell KL.out 0).trans rfl
  have kl1 : wl.cell? ⟨gl, 1, none⟩ = some (.slice A l.length c) := (blk_cell KL.out 1).trans rfl
  go_wp2_with (first | (go_at_call 25; refine (lay_at T0.out (Kd.C_below HR.out BL.out) HC.out).mono ?_; rintro e w1 ⟨rfl, hb⟩; have KL := Aside0.mk (blk_below KL.out hb); have BL := Aside0.mk (below_step BL.out hb); clear hb kl0 kl1))
  go_ret
  exact ⟨_, rfl, Kd.R_nil _ _ _ _ _, BL.out⟩
set_option maxHeartbeats 32000000 in
set_option maxRecDepth 100000 in
theorem ipass_no3 (n : Int) (A : Option Addr) (c : Nat) (l : List S88) (A1 : Option Addr) (c1 : Nat) (ps : List S143) (A2 : Option Addr) (c2 : Nat) (ax : List Int) (fr tt : Int) (w : World) (hr : Kd.C k88 w A l.length l) (hc : l.length ≤ c) (hr1 : Kd.C k143 w A1 ps.length ps) (hc1 : ps.length ≤ c1) (hr2 : Kd.C (Kd.int .i64) w A2 ax.length ax) (hc2 : ax.length ≤ c2) (hp : ps.length ≤ 1048576) (ha : ax.length ≤ 1048576) (t0 : layoutOk n l = 0) (t1 : ps.length ≤ 120) (t2 : ax.length ≤ 200) (t3 : farB fr = false) :
    Calls Try.prog 75 #[.agg #[.int .i64 n, .slice A l.length c], .slice A1 ps.length c1, .slice A2 ax.length c2, .int .i64 fr, .int .i64 tt] w fun e w' => ∃ v0_ : Value, e = .returned v0_ ∧ Kd.R k56 56 w' w.heap.size (fun _ => True) v0_ ([]) ∧ Below w.heap.size w w' := by
  have HR := Aside0.mk hr
  have HC := Aside0.mk hc
  have HR1 := Aside0.mk hr1
  have HC1 := Aside0.mk hc1
  have HR2 := Aside0.mk hr2
  have HC2 := Aside0.mk hc2
  have T0 := Aside0.mk t0
  clear hr hc hr1 hc1 hr2 hc2 t0
  have d1 : decide ((120 : Int) < (ps.length : Int)) = false := decide_eq_false (by omega)
  have d1' : decide ((ps.length : Int) > 120) = false := d1
  have d2 : decide ((200 : Int) < (ax.length : Int)) = false := decide_eq_false (by omega)
  have d2' : decide ((ax.length : Int) > 200) = false := d2
  have T3 := Aside0.mk t3
  have P1 := Aside0.mk t1
  have P2 := Aside0.mk t2
  clear t3
  go_enter Try.func75, Try.ntmps75
  go_upto_region 2 with ((with_reducible refine gate_dst (N := 5) rfl ?_); refine box_event ?hg (N := 5) ?hd (cs := #[.int .i64 n, .slice A l.length c]) (t := 30) ?hr ?_; (case hd => rfl); (case hg => rfl); (case hr => first | (go_simp; done) | (go_simp; rfl)); intro gl el wl kl bl; clear el; have KL := Aside0.mk kl; have BL := Aside0.mk bl; clear kl bl)
  have kl0 : wl.cell? ⟨gl, 0, none⟩ = some (.int .i64 n) := (blk_cell KL.out 0).trans rfl
  have kl1 : wl.cell? ⟨gl, 1, none⟩ = some (.slice A l.length c) := (blk_cell KL.out 1).trans rfl
  go_wp2_with (first | (go_at_call 25; refine (lay_at T0.out (Kd.C_below HR.out BL.out) HC.out).mono ?_; rintro e w1 ⟨rfl, hb⟩; have KL := Aside0.mk (blk_below KL.out hb); have BL := Aside0.mk (below_step BL.out hb); clear hb kl0 kl1) | (go_at_call 119; (with_reducible refine (far_at T3.out _).mono ?_); rintro e wz ⟨rfl, hw⟩; obtain rfl := hw.symm))
  go_ret
  exact ⟨_, rfl, Kd.R_nil _ _ _ _ _, BL.out⟩
set_option maxHeartbeats 32000000 in
set_option maxRecDepth 100000 in
theorem ipass_no4 (n : Int) (A : Option Addr) (c : Nat) (l : List S88) (A1 : Option Addr) (c1 : Nat) (ps : List S143) (A2 : Option Addr) (c2 : Nat) (ax : List Int) (fr tt : Int) (w : World) (hr : Kd.C k88 w A l.length l) (hc : l.length ≤ c) (hr1 : Kd.C k143 w A1 ps.length ps) (hc1 : ps.length ≤ c1) (hr2 : Kd.C (Kd.int .i64) w A2 ax.length ax) (hc2 : ax.length ≤ c2) (hp : ps.length ≤ 1048576) (ha : ax.length ≤ 1048576) (t0 : layoutOk n l = 0) (t1 : ps.length ≤ 120) (t2 : ax.length ≤ 200) (t3 : farB fr = true) (t4 : farB tt = false) :
    Calls Try.prog 75 #[.agg #[.int .i64 n, .slice A l.length c], .slice A1 ps.length c1, .slice A2 ax.length c2, .int .i64 fr, .int .i64 tt] w fun e w' => ∃ v0_ : Value, e = .returned v0_ ∧ Kd.R k56 56 w' w.heap.size (fun _ => True) v0_ ([]) ∧ Below w.heap.size w w' := by
  have HR := Aside0.mk hr
  have HC := Aside0.mk hc
  have HR1 := Aside0.mk hr1
  have HC1 := Aside0.mk hc1
  have HR2 := Aside0.mk hr2
  have HC2 := Aside0.mk hc2
  have T0 := Aside0.mk t0
  clear hr hc hr1 hc1 hr2 hc2 t0
  have d1 : decide ((120 : Int) < (ps.length : Int)) = false := decide_eq_false (by omega)
  have d1' : decide ((ps.length : Int) > 120) = false := d1
  have d2 : decide ((200 : Int) < (ax.length : Int)) = false := decide_eq_false (by omega)
  have d2' : decide ((ax.length : Int) > 200) = false := d2
  have T3 := Aside0.mk t3
  have T4 := Aside0.mk t4
  have P1 := Aside0.mk t1
  have P2 := Aside0.mk t2
  clear t3 t4
  go_enter Try.func75, Try.ntmps75
  go_upto_region 2 with ((with_reducible refine gate_dst (N := 5) rfl ?_); refine box_event ?hg (N := 5) ?hd (cs := #[.int .i64 n, .slice A l.length c]) (t := 30) ?hr ?_; (case hd => rfl); (case hg => rfl); (case hr => first | (go_simp; done) | (go_simp; rfl)); intro gl el wl kl bl; clear el; have KL := Aside0.mk kl; have BL := Aside0.mk bl; clear kl bl)
  have kl0 : wl.cell? ⟨gl, 0, none⟩ = some (.int .i64 n) := (blk_cell KL.out 0).trans rfl
  have kl1 : wl.cell? ⟨gl, 1, none⟩ = some (.slice A l.length c) := (blk_cell KL.out 1).trans rfl
  go_wp2_with (first | (go_at_call 25; refine (lay_at T0.out (Kd.C_below HR.out BL.out) HC.out).mono ?_; rintro e w1 ⟨rfl, hb⟩; have KL := Aside0.mk (blk_below KL.out hb); have BL := Aside0.mk (below_step BL.out hb); clear hb kl0 kl1) | (go_at_call 119; (with_reducible refine (far_at T3.out _).mono ?_); rintro e wz ⟨rfl, hw⟩; obtain rfl := hw.symm) | (go_at_call 119; (with_reducible refine (far_at T4.out _).mono ?_); rintro e wz ⟨rfl, hw⟩; obtain rfl := hw.symm))
  go_ret
  exact ⟨_, rfl, Kd.R_nil _ _ _ _ _, BL.out⟩
set_option maxHeartbeats 32000000 in
set_option maxRecDepth 100000 in
theorem ipass_no5 (n : Int) (A : Option Addr) (c : Nat) (l : List S88) (A1 : Option Addr) (c1 : Nat) (ps : List S143) (A2 : Option Addr) (c2 : Nat) (ax : List Int) (fr tt : Int) (w : World) (hr : Kd.C k88 w A l.length l) (hc : l.length ≤ c) (hr1 : Kd.C k143 w A1 ps.length ps) (hc1 : ps.length ≤ c1) (hr2 : Kd.C (Kd.int .i64) w A2 ax.length ax) (hc2 : ax.length ≤ c2) (hp : ps.length ≤ 1048576) (ha : ax.length ≤ 1048576) (t0 : layoutOk n l = 0) (t1 : ps.length ≤ 120) (t2 : ax.length ≤ 200) (t3 : farB fr = true) (t4 : farB tt = true) (t5 : tt < fr) :
    Calls Try.prog 75 #[.agg #[.int .i64 n, .slice A l.length c], .slice A1 ps.length c1, .slice A2 ax.length c2, .int .i64 fr, .int .i64 tt] w fun e w' => ∃ v0_ : Value, e = .returned v0_ ∧ Kd.R k56 56 w' w.heap.size (fun _ => True) v0_ ([]) ∧ Below w.heap.size w w' := by
  have HR := Aside0.mk hr
  have HC := Aside0.mk hc
  have HR1 := Aside0.mk hr1
  have HC1 := Aside0.mk hc1
  have HR2 := Aside0.mk hr2
  have HC2 := Aside0.mk hc2
  have T0 := Aside0.mk t0
  clear hr hc hr1 hc1 hr2 hc2 t0
  have d1 : decide ((120 : Int) < (ps.length : Int)) = false := decide_eq_false (by omega)
  have d1' : decide ((ps.length : Int) > 120) = false := d1
  have d2 : decide ((200 : Int) < (ax.length : Int)) = false := decide_eq_false (by omega)
  have d2' : decide ((ax.length : Int) > 200) = false := d2
  have T3 := Aside0.mk t3
  have T4 := Aside0.mk t4
  have d5 : decide (tt < fr) = true := decide_eq_true (by omega)
  have T5 := Aside0.mk t5
  have P1 := Aside0.mk t1
  have P2 := Aside0.mk t2
  clear t3 t4 t5
  go_enter Try.func75, Try.ntmps75
  go_upto_region 2 with ((with_reducible refine gate_dst (N := 5) rfl ?_); refine box_event ?hg (N := 5) ?hd (cs := #[.int .i64 n, .slice A l.length c]) (t := 30) ?hr ?_; (case hd => rfl); (case hg => rfl); (case hr => first | (go_simp; done) | (go_simp; rfl)); intro gl el wl kl bl; clear el; have KL := Aside0.mk kl; have BL := Aside0.mk bl; clear kl bl)
  have kl0 : wl.cell? ⟨gl, 0, none⟩ = some (.int .i64 n) := (blk_cell KL.out 0).trans rfl
  have kl1 : wl.cell? ⟨gl, 1, none⟩ = some (.slice A l.length c) := (blk_cell KL.out 1).trans rfl
  go_wp2_with (first | (go_at_call 25; refine (lay_at T0.out (Kd.C_below HR.out BL.out) HC.out).mono ?_; rintro e w1 ⟨rfl, hb⟩; have KL := Aside0.mk (blk_below KL.out hb); have BL := Aside0.mk (below_step BL.out hb); clear hb kl0 kl1) | (go_at_call 119; (with_reducible refine (far_at T3.out _).mono ?_); rintro e wz ⟨rfl, hw⟩; obtain rfl := hw.symm) | (go_at_call 119; (with_reducible refine (far_at T4.out _).mono ?_); rintro e wz ⟨rfl, hw⟩; obtain rfl := hw.symm))
  go_ret
  exact ⟨_, rfl, Kd.R_nil _ _ _ _ _, BL.out⟩
set_option maxHeartbeats 32000000 in
set_option maxRecDepth 100000 in
theorem ipass_yes (n : Int) (A : Option Addr) (c : Nat) (l : List S88) (A1 : Option Addr) (c1 : Nat) (ps : List S143) (A2 : Option Addr) (c2 : Nat) (ax : List Int) (fr tt : Int) (w : World) (hr : Kd.C k88 w A l.length l) (hc : l.length ≤ c) (hr1 : Kd.C k143 w A1 ps.length ps) (hc1 : ps.length ≤ c1) (hr2 : Kd.C (Kd.int .i64) w A2 ax.length ax) (hc2 : ax.length ≤ c2) (hp : ps.length ≤ 1048576) (ha : ax.length ≤ 1048576) (t0 : layoutOk n l = 0) (t1 : ps.length ≤ 120) (t2 : ax.length ≤ 200) (t3 : farB fr = true) (t4 : farB tt = true) (t5 : fr ≤ tt) :
    Calls Try.prog 75 #[.agg #[.int .i64 n, .slice A l.length c], .slice A1 ps.length c1, .slice A2 ax.length c2, .int .i64 fr, .int .i64 tt] w fun e w' => ∃ v0_ : Value, e = .returned v0_ ∧ Kd.R k56 56 w' w.heap.size (fun _ => True) v0_ (if (postsTo l ps ps.length && axlesTo ax ax.length) = true then trainEvs ps ax fr tt else []) ∧ Below w.heap.size w w' := by
  have HR := Aside0.mk hr
  have HC := Aside0.mk hc
  have HR1 := Aside0.mk hr1
  have HC1 := Aside0.mk hc1
  have HR2 := Aside0.mk hr2
  have HC2 := Aside0.mk hc2
  have T0 := Aside0.mk t0
  clear hr hc hr1 hc1 hr2 hc2 t0
  have d1 : decide ((120 : Int) < (ps.length : Int)) = false := decide_eq_false (by omega)
  have d1' : decide ((ps.length : Int) > 120) = false := d1
  have d2 : decide ((200 : Int) < (ax.length : Int)) = false := decide_eq_false (by omega)
  have d2' : decide ((ax.length : Int) > 200) = false := d2
  have T3 := Aside0.mk t3
  have T4 := Aside0.mk t4
  have d5 : decide (tt < fr) = false := decide_eq_false (by omega)
  have T5 := Aside0.mk t5
  have P1 := Aside0.mk t1
  have P2 := Aside0.mk t2
  clear t3 t4 t5
  obtain ⟨res, hres⟩ : ∃ res, res = (if (postsTo l ps ps.length && axlesTo ax ax.length) = true then trainEvs ps ax fr tt else []) := ⟨_, rfl⟩
  rw [← hres]
  have RES := Aside0.mk hres
  clear hres
  go_enter Try.func75, Try.ntmps75
  go_upto_region 2 with ((with_reducible refine gate_dst (N := 5) rfl ?_); refine box_event ?hg (N := 5) ?hd (cs := #[.int .i64 n, .slice A l.length c]) (t := 30) ?hr ?_; (case hd => rfl); (case hg => rfl); (case hr => first | (go_simp; done) | (go_simp; rfl)); intro gl el wl kl bl; clear el; have KL := Aside0.mk kl; have BL := Aside0.mk bl; clear kl bl)
  have kl0 : wl.cell? ⟨gl, 0, none⟩ = some (.int .i64 n) := (blk_cell KL.out 0).trans rfl
  have kl1 : wl.cell? ⟨gl, 1, none⟩ = some (.slice A l.length c) := (blk_cell KL.out 1).trans rfl
  go_upto_region 4 with (first | (go_at_call 25; refine (lay_at T0.out (Kd.C_below HR.out BL.out) HC.out).mono ?_; rintro e w1 ⟨rfl, hb⟩; have KL := Aside0.mk (blk_below KL.out hb); have BL := Aside0.mk (below_step BL.out hb); clear hb kl0 kl1) | (go_at_call 119; (with_reducible refine (far_at T3.out _).mono ?_); rintro e wz ⟨rfl, hw⟩; obtain rfl := hw.symm) | (go_at_call 119; (with_reducible refine (far_at T4.out _).mono ?_); rintro e wz ⟨rfl, hw⟩; obtain rfl := hw.symm))
  have HR1 := Aside0.mk (Kd.C_below HR1.out BL.out)
  have HR2 := Aside0.mk (Kd.C_below HR2.out BL.out)
  clear d1 d1' d2 d2' d5
  go_wp2_with fail
  go_loopg [57] ps.length (fun kq v57 w' => ∃ i : Nat, v57 = .int .i64 i ∧ Aside0 (i + kq = ps.length) ∧ Aside0 (postsTo l ps i = true) ∧ Aside0 (Below w1.heap.size w1 w'))
  case atStart => exact ⟨0, rfl, ⟨by omega⟩, ⟨rfl⟩, ⟨Below.refl _ _⟩⟩
  case round =>
    obtain ⟨i, rfl, HI, HT, HB⟩ := hrel
    by_cases hlt : i < ps.length
    · cases gk with
      | zero => exact absurd HI.out (by omega)
      | succ go1 =>
      have hlt' : decide ((i : Int) < (ps.length : Int)) = true := decide_eq_true (by omega)
      have q0 : (0 : Int) ≤ (i : Int) := by omega
      obtain ⟨adp, e, x0, x1, x2⟩ := at_T143 HR1.out (i : Int) q0 (by omega)
      cases e
      rw [Int.toNat_natCast] at x0 x1 x2
      have HPV := Aside0.mk (prevP_pos HT.out)
      have HPA := Aside0.mk (show postAt l ps i = ((decide (prevP ps i ≤ (rd_T143 ps (i : Int)).f0) && decide ((rd_T143 ps (i : Int)).f0 ≤ 1000000)) && (decide (0 ≤ (rd_T143 ps (i : Int)).f1) && decide ((rd_T143 ps (i : Int)).f1 < (l.length : Int))) && (decide ((rd_T143 ps (i : Int)).f2 = 1) || decide ((rd_T143 ps (i : Int)).f2 = -1))) from rfl)
      have HS := Aside0.mk (show postsTo l ps (i + 1) = (postsTo l ps i && postAt l ps i) from rfl)
      have HF := Aside0.mk (fun (h : postAt l ps i = false) => (show postsTo l ps ps.length = false from by
        have e1 : postsTo l ps (i + 1) = false := by rw [HS.out, h, Bool.and_false]
        have h2 := postsTo_false e1 go1
        rwa [show i + 1 + go1 = ps.length by have := HI.out; omega] at h2))
      generalize rd_T143 ps (i : Int) = x at x0 x1 x2 HPA
      replace x0 := pw_cell_below HB.out x0
      replace x1 := pw_cell_below HB.out x1
      replace x2 := pw_cell_below HB.out x2
      go_upto_region 7 with ((with_reducible refine gate_dst (N := 13) rfl ?_); refine box_event ?hg (N := 13) ?hd (cs := #[.int .i64 0, .int .i64 0, .int .i64 0]) (t := 143) ?hr ?_; (case hd => rfl); (case hg => rfl); (case hr => first | (go_simp; done) | (go_simp; rfl)); intro gx ex wx kx bx; have EX := Aside0.mk ex; have KX := Aside0.mk kx; have BX := Aside0.mk bx; clear ex kx bx; have kx0 : wx.cell? ⟨gx, 0, none⟩ = some (.int .i64 0) := (blk_cell KX.out 0).trans rfl; have zkx0 := blk_frozen KX.out 0; have kx1 : wx.cell? ⟨gx, 1, none⟩ = some (.int .i64 0) := (blk_cell KX.out 1).trans rfl; have zkx1 := blk_frozen KX.out 1; have kx2 : wx.cell? ⟨gx, 2, none⟩ = some (.int .i64 0) := (blk_cell KX.out 2).trans rfl; have zkx2 := blk_frozen KX.out 2)
      have FX := Aside0.mk (fill3t (y0 := .int .i64 x.f0) (y1 := .int .i64 x.f1) (y2 := .int .i64 x.f2) KX.out BX.out (Nat.le_of_eq EX.out.symm))
      clear kx0 zkx0 kx1 zkx1 kx2 zkx2 KX BX EX x0 x1 x2
      generalize (((wx.setCell ⟨gx, 0, none⟩ (.int .i64 x.f0)).setCell ⟨gx, 1, none⟩ (.int .i64 x.f1)).setCell ⟨gx, 2, none⟩ (.int .i64 x.f2)) = w6 at FX ⊢
      have HB := Aside0.mk (below_drew1 (below_step HB.out FX.out.1))
      have KX := Aside0.mk (blk_drew FX.out.2)
      clear FX
      have kx0 : w6.drew.cell? ⟨gx, 0, none⟩ = some (.int .i64 x.f0) := (blk_cell KX.out 0).trans rfl
      have kx1 : w6.drew.cell? ⟨gx, 1, none⟩ = some (.int .i64 x.f1) := (blk_cell KX.out 1).trans rfl
      have kx2 : w6.drew.cell? ⟨gx, 2, none⟩ = some (.int .i64 x.f2) := (blk_cell KX.out 2).trans rfl
      have kl1 : w6.drew.cell? ⟨gl, 1, none⟩ = some (.slice A l.length c) := (blk_cell (blk_below KL.out HB.out) 1).trans rfl
      have W1 := Aside0.mk (show wrap64 ((i : Int) + 1) = ((i + 1 : Nat) : Int) from (wrap_id (by omega) (by have := P1.out; omega)).trans (by omega))
      by_cases hi0 : i = 0
      · have hgt : ¬ 0 < i := by omega
        have hgt' : decide ((i : Int) > 0) = false := decide_eq_false (by omega)
        have HI0 := Aside0.mk hi0
        clear hi0
        cases hpe : postAt l ps i
        · have HPE := Aside0.mk hpe
          clear hpe
          have hway := post_no HPV.out (HPA.out.symm.trans HPE.out)
          rcases hway with hfb | ⟨hfb, h1⟩ | ⟨hfb, h1, h2⟩ | ⟨hfb, h1, h2, h3⟩ | ⟨hfb, h1, h2, h3, h4, h5⟩
          rotate_left
          · exact absurd (far_yes hfb).1 (by rw [HI0.out] at h1; have h1 : x.f0 < 0 := of_decide_eq_true h1; omega)
          all_goals
            refine startK 43 (S := fun w' => w'.cell? ⟨gx, 0, none⟩ = some (.int .i64 x.f0) ∧ w'.cell? ⟨gx, 1, none⟩ = some (.int .i64 x.f1) ∧ w'.cell? ⟨gx, 2, none⟩ = some (.int .i64 x.f2) ∧ w'.cell? ⟨gl, 1, none⟩ = some (.slice A l.length c)) (ds := []) (by kernel_rfl) rfl ⟨kx0, kx1, kx2, kl1⟩ (fun hHeld => ?_)
            refine with_tabW ip_tab7 ip_bits7 (fun HT_ HW_ => ?_)
            repeat (first
              | (refine take0 (v := ?_) (a' := ?_) (by simp only [Nat.reduceAdd]; rfl) (by rfl) HT_.out HW_.out (by kernel_rfl) (by exact fun _ _ _ h => h) hHeld ?_ ?_ ?_; rotate_left 2; (· rintro w' ⟨s0, s1, s2, s3⟩; go_simp; with_reducible rfl); (· simp only [Act.put, List.setIfInBounds_toArray, List.set_cons_zero, List.set_cons_succ, i64_w, i32_w]; rfl))
              | (refine takeG (v := ?_) (a' := ?_) (by simp only [Nat.reduceAdd]; rfl) (by rfl) (by rfl) HT_.out HW_.out (by kernel_rfl) (by exact fun _ _ _ h => h) hHeld ?_ ?_ ?_; rotate_left 2; (· first | (rw [if_neg (by decide)]; done) | (rw [if_pos (by decide)]; rintro w' ⟨s0, s1, s2, s3⟩; go_simp; with_reducible rfl)); (· simp only [Act.put, List.setIfInBounds_toArray, List.set_cons_zero, List.set_cons_succ, i64_w, i32_w]; rfl))
              | (refine takeU (a' := ?_) (by simp only [Nat.reduceAdd]; rfl) (by rfl) (by rfl) HT_.out HW_.out (by kernel_rfl) (by exact fun _ _ _ h => h) hHeld ?_ ?_; rotate_left; (· simp only [Act.put, List.setIfInBounds_toArray, List.set_cons_zero, List.set_cons_succ, i64_w, i32_w]; rfl))
              | (refine oneK (by simp only [Nat.reduceAdd]; rfl) (by rfl) HT_.out (by kernel_rfl) (by decide) (fun K hK => ?_); refine goesV_ Try.func119 (by kernel_rfl) rfl #[.int .i64 x.f0] (by rfl) rfl rfl (by rfl) (by (try simp only [List.map_toArray, List.map_cons, List.map_nil]); first | done | rfl) ?_; ((with_reducible refine (far_at hfb _).mono ?_); rintro e w' ⟨rfl, rfl⟩); refine ⟨_, rfl, ?_⟩; refine hK.out _ _ hHeld (fun hHeld => ?_); clear hK K; refine norm_ (a' := ?_) ?_ ?_; rotate_left; · simp only [Act.put, List.setIfInBounds_toArray, List.set_cons_zero, List.set_cons_succ, i64_w, i32_w]; rfl))
            refine done_ (done_of HT_.out (by kernel_rfl)) ?_
            go_wp2_with fail
            go_ret
            exact ⟨_, rfl, by rw [RES.out, if_neg (by simp [HF.out HPE.out])]; exact Kd.R_nil _ _ _ _ _, below_step BL.out HB.out⟩
        · have HPE := Aside0.mk hpe
          clear hpe
          obtain ⟨hfb, h1, h2, h3, hd⟩ := post_yes HPV.out (HPA.out.symm.trans HPE.out)
          rcases hd with h4 | ⟨h4, h5⟩
          all_goals
            refine startK 43 (S := fun w' => w'.cell? ⟨gx, 0, none⟩ = some (.int .i64 x.f0) ∧ w'.cell? ⟨gx, 1, none⟩ = some (.int .i64 x.f1) ∧ w'.cell? ⟨gx, 2, none⟩ = some (.int .i64 x.f2) ∧ w'.cell? ⟨gl, 1, none⟩ = some (.slice A l.length c)) (ds := []) (by kernel_rfl) rfl ⟨kx0, kx1, kx2, kl1⟩ (fun hHeld => ?_)
            refine with_tabW ip_tab7 ip_bits7 (fun HT_ HW_ => ?_)
            repeat (first
              | (refine take0 (v := ?_) (a' := ?_) (by simp only [Nat.reduceAdd]; rfl) (by rfl) HT_.out HW_.out (by kernel_rfl) (by exact fun _ _ _ h => h) hHeld ?_ ?_ ?_; rotate_left 2; (· rintro w' ⟨s0, s1, s2, s3⟩; go_simp; with_reducible rfl); (· simp only [Act.put, List.setIfInBounds_toArray, List.set_cons_zero, List.set_cons_succ, i64_w, i32_w]; rfl))
              | (refine takeG (v := ?_) (a' := ?_) (by simp only [Nat.reduceAdd]; rfl) (by rfl) (by rfl) HT_.out HW_.out (by kernel_rfl) (by exact fun _ _ _ h => h) hHeld ?_ ?_ ?_; rotate_left 2; (· first | (rw [if_neg (by decide)]; done) | (rw [if_pos (by decide)]; rintro w' ⟨s0, s1, s2, s3⟩; go_simp; with_reducible rfl)); (· simp only [Act.put, List.setIfInBounds_toArray, List.set_cons_zero, List.set_cons_succ, i64_w, i32_w]; rfl))
              | (refine takeU (a' := ?_) (by simp only [Nat.reduceAdd]; rfl) (by rfl) (by rfl) HT_.out HW_.out (by kernel_rfl) (by exact fun _ _ _ h => h) hHeld ?_ ?_; rotate_left; (· simp only [Act.put, List.setIfInBounds_toArray, List.set_cons_zero, List.set_cons_succ, i64_w, i32_w]; rfl))
              | (refine oneK (by simp only [Nat.reduceAdd]; rfl) (by rfl) HT_.out (by kernel_rfl) (by decide) (fun K hK => ?_); refine goesV_ Try.func119 (by kernel_rfl) rfl #[.int .i64 x.f0] (by rfl) rfl rfl (by rfl) (by (try simp only [List.map_toArray, List.map_cons, List.map_nil]); first | done | rfl) ?_; ((with_reducible refine (far_at hfb _).mono ?_); rintro e w' ⟨rfl, rfl⟩); refine ⟨_, rfl, ?_⟩; refine hK.out _ _ hHeld (fun hHeld => ?_); clear hK K; refine norm_ (a' := ?_) ?_ ?_; rotate_left; · simp only [Act.put, List.setIfInBounds_toArray, List.set_cons_zero, List.set_cons_succ, i64_w, i32_w]; rfl))
            refine done_ (done_of HT_.out (by kernel_rfl)) ?_
            go_wp2_with fail
            go_roundg go1
            case measure => omega
            case rel => exact ⟨i + 1, congrArg (Value.int .i64) (by first | exact W1.out | omega), ⟨by have := HI.out; omega⟩, ⟨by rw [HS.out, HT.out, HPE.out]; rfl⟩, HB⟩
      · obtain ⟨j, hj⟩ : ∃ j, i = j + 1 := ⟨i - 1, by omega⟩
        have hgt : 0 < i := by omega
        have hgt' : decide ((i : Int) > 0) = true := decide_eq_true (by omega)
        have hw : wrap64 ((i : Int) - 1) = (j : Int) := (wrap_id (by omega) (by have := P1.out; omega)).trans (by omega)
        have hw' : IntKind.i64.wrap ((i : Int) - 1) = (j : Int) := (i64_w _).trans hw
        have hjl : j < ps.length := by omega
        have j0 : (0 : Int) ≤ (j : Int) := by omega
        have j1 : decide ((j : Int) < (ps.length : Int)) = true := decide_eq_true (by omega)
        obtain ⟨adq, e, y0, -, -⟩ := at_T143 HR1.out (j : Int) j0 (by omega)
        cases e
        rw [Int.toNat_natCast] at y0
        have hpv : prevP ps i = (rd_T143 ps (j : Int)).f0 := by rw [hj]; rfl
        rw [hpv] at HPV HPA
        generalize (rd_T143 ps (j : Int)).f0 = pv at y0 HPV HPA
        replace y0 := pw_cell_below HB.out y0
        clear hpv hj hi0
        cases hpe : postAt l ps i
        · have HPE := Aside0.mk hpe
          clear hpe
          have hway := post_no HPV.out (HPA.out.symm.trans HPE.out)
          rcases hway with hfb | ⟨hfb, h1⟩ | ⟨hfb, h1, h2⟩ | ⟨hfb, h1, h2, h3⟩ | ⟨hfb, h1, h2, h3, h4, h5⟩
          all_goals
            refine startK 43 (S := fun w' => w'.cell? ⟨gx, 0, none⟩ = some (.int .i64 x.f0) ∧ w'.cell? ⟨gx, 1, none⟩ = some (.int .i64 x.f1) ∧ w'.cell? ⟨gx, 2, none⟩ = some (.int .i64 x.f2) ∧ w'.cell? ⟨gl, 1, none⟩ = some (.slice A l.length c) ∧ w'.cell? (adp.add (j * 3)) = some (.int .i64 pv)) (ds := []) (by kernel_rfl) rfl ⟨kx0, kx1, kx2, kl1, y0⟩ (fun hHeld => ?_)
            refine with_tabW ip_tab7 ip_bits7 (fun HT_ HW_ => ?_)
            repeat (first
              | (refine take0 (v := ?_) (a' := ?_) (by simp only [Nat.reduceAdd]; rfl) (by rfl) HT_.out HW_.out (by kernel_rfl) (by exact fun _ _ _ h => h) hHeld ?_ ?_ ?_; rotate_left 2; (· rintro w' ⟨s0, s1, s2, s3, s4⟩; go_simp; with_reducible rfl); (· simp only [Act.put, List.setIfInBounds_toArray, List.set_cons_zero, List.set_cons_succ, i64_w, i32_w]; rfl))
              | (refine takeG (v := ?_) (a' := ?_) (by simp only [Nat.reduceAdd]; rfl) (by rfl) (by rfl) HT_.out HW_.out (by kernel_rfl) (by exact fun _ _ _ h => h) hHeld ?_ ?_ ?_; rotate_left 2; (· first | (rw [if_neg (by decide)]; done) | (rw [if_pos (by decide)]; rintro w' ⟨s0, s1, s2, s3, s4⟩; go_simp; with_reducible rfl)); (· simp only [Act.put, List.setIfInBounds_toArray, List.set_cons_zero, List.set_cons_succ, i64_w, i32_w]; rfl))
              | (refine takeU (a' := ?_) (by simp only [Nat.reduceAdd]; rfl) (by rfl) (by rfl) HT_.out HW_.out (by kernel_rfl) (by exact fun _ _ _ h => h) hHeld ?_ ?_; rotate_left; (· simp only [Act.put, List.setIfInBounds_toArray, List.set_cons_zero, List.set_cons_succ, i64_w, i32_w]; rfl))
              | (refine oneK (by simp only [Nat.reduceAdd]; rfl) (by rfl) HT_.out (by kernel_rfl) (by decide) (fun K hK => ?_); refine goesV_ Try.func119 (by kernel_rfl) rfl #[.int .i64 x.f0] (by rfl) rfl rfl (by rfl) (by (try simp only [List.map_toArray, List.map_cons, List.map_nil]); first | done | rfl) ?_; ((with_reducible refine (far_at hfb _).mono ?_); rintro e w' ⟨rfl, rfl⟩); refine ⟨_, rfl, ?_⟩; refine hK.out _ _ hHeld (fun hHeld => ?_); clear hK K; refine norm_ (a' := ?_) ?_ ?_; rotate_left; · simp only [Act.put, List.setIfInBounds_toArray, List.set_cons_zero, List.set_cons_succ, i64_w, i32_w]; rfl))
            refine done_ (done_of HT_.out (by kernel_rfl)) ?_
            go_wp2_with fail
            go_ret
            exact ⟨_, rfl, by rw [RES.out, if_neg (by simp [HF.out HPE.out])]; exact Kd.R_nil _ _ _ _ _, below_step BL.out HB.out⟩
        · have HPE := Aside0.mk hpe
          clear hpe
          obtain ⟨hfb, h1, h2, h3, hd⟩ := post_yes HPV.out (HPA.out.symm.trans HPE.out)
          rcases hd with h4 | ⟨h4, h5⟩
          all_goals
            refine startK 43 (S := fun w' => w'.cell? ⟨gx, 0, none⟩ = some (.int .i64 x.f0) ∧ w'.cell? ⟨gx, 1, none⟩ = some (.int .i64 x.f1) ∧ w'.cell? ⟨gx, 2, none⟩ = some (.int .i64 x.f2) ∧ w'.cell? ⟨gl, 1, none⟩ = some (.slice A l.length c) ∧ w'.cell? (adp.add (j * 3)) = some (.int .i64 pv)) (ds := []) (by kernel_rfl) rfl ⟨kx0, kx1, kx2, kl1, y0⟩ (fun hHeld => ?_)
            refine with_tabW ip_tab7 ip_bits7 (fun HT_ HW_ => ?_)
            repeat (first
              | (refine take0 (v := ?_) (a' := ?_) (by simp only [Nat.reduceAdd]; rfl) (by rfl) HT_.out HW_.out (by kernel_rfl) (by exact fun _ _ _ h => h) hHeld ?_ ?_ ?_; rotate_left 2; (· rintro w' ⟨s0, s1, s2, s3, s4⟩; go_simp; with_reducible rfl); (· simp only [Act.put, List.setIfInBounds_toArray, List.set_cons_zero, List.set_cons_succ, i64_w, i32_w]; rfl))
              | (refine takeG (v := ?_) (a' := ?_) (by simp only [Nat.reduceAdd]; rfl) (by rfl) (by rfl) HT_.out HW_.out (by kernel_rfl) (by exact fun _ _ _ h => h) hHeld ?_ ?_ ?_; rotate_left 2; (· first | (rw [if_neg (by decide)]; done) | (rw [if_pos (by decide)]; rintro w' ⟨s0, s1, s2, s3, s4⟩; go_simp; with_reducible rfl)); (· simp only [Act.put, List.setIfInBounds_toArray, List.set_cons_zero, List.set_cons_succ, i64_w, i32_w]; rfl))
              | (refine takeU (a' := ?_) (by simp only [Nat.reduceAdd]; rfl) (by rfl) (by rfl) HT_.out HW_.out (by kernel_rfl) (by exact fun _ _ _ h => h) hHeld ?_ ?_; rotate_left; (· simp only [Act.put, List.setIfInBounds_toArray, List.set_cons_zero, List.set_cons_succ, i64_w, i32_w]; rfl))
              | (refine oneK (by simp only [Nat.reduceAdd]; rfl) (by rfl) HT_.out (by kernel_rfl) (by decide) (fun K hK => ?_); refine goesV_ Try.func119 (by kernel_rfl) rfl #[.int .i64 x.f0] (by rfl) rfl rfl (by rfl) (by (try simp only [List.map_toArray, List.map_cons, List.map_nil]); first | done | rfl) ?_; ((with_reducible refine (far_at hfb _).mono ?_); rintro e w' ⟨rfl, rfl⟩); refine ⟨_, rfl, ?_⟩; refine hK.out _ _ hHeld (fun hHeld => ?_); clear hK K; refine norm_ (a' := ?_) ?_ ?_; rotate_left; · simp only [Act.put, List.setIfInBounds_toArray, List.set_cons_zero, List.set_cons_succ, i64_w, i32_w]; rfl))
            refine done_ (done_of HT_.out (by kernel_rfl)) ?_
            go_wp2_with fail
            go_roundg go1
            case measure => omega
            case rel => exact ⟨i + 1, congrArg (Value.int .i64) (by first | exact W1.out | omega), ⟨by have := HI.out; omega⟩, ⟨by rw [HS.out, HT.out, HPE.out]; rfl⟩, HB⟩
    · have hlt' : decide ((i : Int) < (ps.length : Int)) = false := decide_eq_false (by omega)
      have hi : i = ps.length := by have := HI.out; omega
      have HPT := Aside0.mk (show postsTo l ps ps.length = true by rw [← hi]; exact HT.out)
      clear hi HT
      go_wp2_with fail
      go_loopg [108] ax.length (fun kq v108 w' => ∃ i : Nat, v108 = .int .i64 i ∧ Aside0 (i + kq = ax.length) ∧ Aside0 (axlesTo ax i = true) ∧ Aside0 (Below w1.heap.size w1 w'))
      case atStart => exact ⟨0, rfl, ⟨by omega⟩, ⟨rfl⟩, HB⟩
      case round =>
        clear HB
        obtain ⟨i, rfl, HI, HT, HB⟩ := hrel
        by_cases hat : i < ax.length
        · cases gk with
          | zero => exact absurd HI.out (by omega)
          | succ go1 =>
          have hat' : decide ((i : Int) < (ax.length : Int)) = true := decide_eq_true (by omega)
          have q0 : (0 : Int) ≤ (i : Int) := by omega
          obtain ⟨ada, e, -⟩ := HR2.out.2.2 (by omega)
          subst e
          have yv := Kd.foot_int HR2.out (i : Int) q0 (by omega)
          rw [Int.toNat_natCast] at yv
          have HPV := Aside0.mk (prevA_pos HT.out)
          have HPA := Aside0.mk (show axleAt ax i = (decide (prevA ax i ≤ rd ax (i : Int)) && decide (rd ax (i : Int) ≤ 1000000)) from rfl)
          have HS := Aside0.mk (show axlesTo ax (i + 1) = (axlesTo ax i && axleAt ax i) from rfl)
          have HF := Aside0.mk (fun (h : axleAt ax i = false) => (show axlesTo ax ax.length = false from by
            have e1 : axlesTo ax (i + 1) = false := by rw [HS.out, h, Bool.and_false]
            have h2 := axlesTo_false e1 go1
            rwa [show i + 1 + go1 = ax.length by have := HI.out; omega] at h2))
          generalize rd ax (i : Int) = ai at yv HPA
          replace yv := pw_cell_below HB.out yv
          have W1 := Aside0.mk (show wrap64 ((i : Int) + 1) = ((i + 1 : Nat) : Int) from (wrap_id (by omega) (by have := P2.out; omega)).trans (by omega))
          by_cases hi0 : i = 0
          · have hgt : ¬ 0 < i := by omega
            have hgt' : decide ((i : Int) > 0) = false := decide_eq_false (by omega)
            have HI0 := Aside0.mk hi0
            clear hi0
            cases hpe : axleAt ax i
            · have HPE := Aside0.mk hpe
              clear hpe
              have hway := axle_no HPV.out (HPA.out.symm.trans HPE.out)
              rcases hway with hfb | ⟨hfb, h1⟩
              rotate_left
              · exact absurd (far_yes hfb).1 (by rw [HI0.out] at h1; have h1 : ai < 0 := of_decide_eq_true h1; omega)
              all_goals
                go_wp2_with (go_at_call 119; (with_reducible refine (far_at hfb _).mono ?_); rintro e wz ⟨rfl, hw_⟩; obtain rfl := hw_.symm)
                go_ret
                exact ⟨_, rfl, by rw [RES.out, if_neg (by simp [HF.out HPE.out])]; exact Kd.R_nil _ _ _ _ _, below_step BL.out HB.out⟩
            · have HPE := Aside0.mk hpe
              clear hpe
              obtain ⟨hfb, h1⟩ := axle_yes HPV.out (HPA.out.symm.trans HPE.out)
              go_wp2_with (go_at_call 119; (with_reducible refine (far_at hfb _).mono ?_); rintro e wz ⟨rfl, hw_⟩; obtain rfl := hw_.symm)
              go_roundg go1
              case measure => omega
              case rel => exact ⟨i + 1, congrArg (Value.int .i64) (by first | exact W1.out | omega), ⟨by have := HI.out; omega⟩, ⟨by rw [HS.out, HT.out, HPE.out]; rfl⟩, HB⟩
          · obtain ⟨j, hj⟩ : ∃ j, i = j + 1 := ⟨i - 1, by omega⟩
            have hgt : 0 < i := by omega
            have hgt' : decide ((i : Int) > 0) = true := decide_eq_true (by omega)
            have hw : wrap64 ((i : Int) - 1) = (j : Int) := (wrap_id (by omega) (by have := P2.out; omega)).trans (by omega)
            have hw' : IntKind.i64.wrap ((i : Int) - 1) = (j : Int) := (i64_w _).trans hw
            have hjl : j < ax.length := by omega
            have j0 : (0 : Int) ≤ (j : Int) := by omega
            have j1 : decide ((j : Int) < (ax.length : Int)) = true := decide_eq_true (by omega)
            have y0 := Kd.foot_int HR2.out (j : Int) j0 (by omega)
            rw [Int.toNat_natCast] at y0
            have hpv : prevA ax i = rd ax (j : Int) := by rw [hj]; rfl
            rw [hpv] at HPV HPA
            generalize rd ax (j : Int) = pv at y0 HPV HPA
            replace y0 := pw_cell_below HB.out y0
            clear hpv hj hi0
            cases hpe : axleAt ax i
            · have HPE := Aside0.mk hpe
              clear hpe
              have hway := axle_no HPV.out (HPA.out.symm.trans HPE.out)
              rcases hway with hfb | ⟨hfb, h1⟩
              all_goals
                go_wp2_with (go_at_call 119; (with_reducible refine (far_at hfb _).mono ?_); rintro e wz ⟨rfl, hw_⟩; obtain rfl := hw_.symm)
                go_ret
                exact ⟨_, rfl, by rw [RES.out, if_neg (by simp [HF.out HPE.out])]; exact Kd.R_nil _ _ _ _ _, below_step BL.out HB.out⟩
            · have HPE := Aside0.mk hpe
              clear hpe
              obtain ⟨hfb, h1⟩ := axle_yes HPV.out (HPA.out.symm.trans HPE.out)
              go_wp2_with (go_at_call 119; (with_reducible refine (far_at hfb _).mono ?_); rintro e wz ⟨rfl, hw_⟩; obtain rfl := hw_.symm)
              go_roundg go1
              case measure => omega
              case rel => exact ⟨i + 1, congrArg (Value.int .i64) (by first | exact W1.out | omega), ⟨by have := HI.out; omega⟩, ⟨by rw [HS.out, HT.out, HPE.out]; rfl⟩, HB⟩
        · have hat' : decide ((i : Int) < (ax.length : Int)) = false := decide_eq_false (by omega)
          have hi : i = ax.length := by have := HI.out; omega
          have HAT := Aside0.mk (show axlesTo ax ax.length = true by rw [← hi]; exact HT.out)
          clear hi HT
          have RES := Aside0.mk (show res = trainEvs ps ax fr tt by rw [RES.out, HPT.out, HAT.out]; rfl)
          go_wp2_with fail
          go_loopg [16, 133] ax.length (fun kq v16 v133 w' => ∃ i : Nat, v133 = .int .i64 i ∧ Aside0 (i + kq = ax.length) ∧ Aside0 (Kd.R k154 146 w' w1.heap.size (fun _ => True) v16 (metTo ps ax fr tt i)) ∧ Aside0 (Below w1.heap.size w1 w'))
          case atStart => exact ⟨0, rfl, ⟨by omega⟩, ⟨Kd.R_nil _ _ _ _ _⟩, HB⟩
          case round =>
            clear HB
            obtain ⟨i, rfl, HI, HO, HB⟩ := hrel
            by_cases hit : i < ax.length
            · cases gk with
              | zero => exact absurd HI.out (by omega)
              | succ go1 =>
              have hit' : decide ((i : Int) < (ax.length : Int)) = true := decide_eq_true (by omega)
              have q0 : (0 : Int) ≤ (i : Int) := by omega
              have q1 : (i : Int) < (ax.length : Int) := by omega
              have I200 := Aside0.mk (show i < 200 by have := P2.out; omega)
              obtain ⟨ada, e, -⟩ := HR2.out.2.2 (by omega)
              subst e
              have yv := Kd.foot_int HR2.out (i : Int) q0 q1
              rw [Int.toNat_natCast] at yv
              have AI := Aside0.mk (axle_in HAT.out i hit)
              have GS := Aside0.mk (show metTo ps ax fr tt (i + 1) = metTo ps ax fr tt i ++ rowTo ps (rd ax (i : Int)) (i : Int) fr tt ps.length from rfl)
              have LT := Aside0.mk (show (metTo ps ax fr tt i).length ≤ 24000 from Nat.le_trans (metTo_len ps ax fr tt i) (Nat.le_trans (Nat.mul_le_mul (Nat.le_of_lt I200.out) P1.out) (by omega)))
              generalize rd ax (i : Int) = ai at yv AI GS
              replace yv := pw_cell_below HB.out yv
              go_wp2_with fail
              clear yv
              go_loopg [16, 140] ps.length (fun kq v16 v140 w' => ∃ k : Nat, v140 = .int .i64 k ∧ Aside0 (k + kq = ps.length) ∧ Aside0 (Kd.R k154 146 w' w1.heap.size (fun _ => True) v16 (metTo ps ax fr tt i ++ rowTo ps ai (i : Int) fr tt k)) ∧ Aside0 (Below w1.heap.size w1 w'))
              case atStart => exact ⟨0, rfl, ⟨by omega⟩, ⟨by rw [rowTo, List.append_nil]; exact HO.out⟩, HB⟩
              case round =>
                clear HO HB
                obtain ⟨k, rfl, HK, HO, HB⟩ := hrel
                by_cases hkt : k < ps.length
                · cases gk with
                  | zero => exact absurd HK.out (by omega)
                  | succ go2 =>
                  have hkt' : decide ((k : Int) < (ps.length : Int)) = true := decide_eq_true (by omega)
                  have r0 : (0 : Int) ≤ (k : Int) := by omega
                  have r1 : (k : Int) < (ps.length : Int) := by omega
                  obtain ⟨adp, e, x0, x1, x2⟩ := at_T143 HR1.out (k : Int) r0 r1
                  cases e
                  rw [Int.toNat_natCast] at x0 x1 x2
                  have pin := post_in HPT.out k hkt
                  have RS := Aside0.mk (show rowTo ps ai (i : Int) fr tt (k + 1) = rowTo ps ai (i : Int) fr tt k ++ metAt ps ai (i : Int) fr tt k from rfl)
                  have MA := Aside0.mk (show metAt ps ai (i : Int) fr tt k = if fr < (rd_T143 ps (k : Int)).f0 + ai ∧ (rd_T143 ps (k : Int)).f0 + ai ≤ tt then [⟨(rd_T143 ps (k : Int)).f0 + ai, (i : Int), (k : Int)⟩] else [] from rfl)
                  have HL := Aside0.mk (show (metTo ps ax fr tt i ++ rowTo ps ai (i : Int) fr tt k).length ≤ 30000 by rw [List.length_append]; have := rowTo_len ps ai (i : Int) fr tt k; have := LT.out; have := P1.out; omega)
                  generalize rd_T143 ps (k : Int) = x at x0 x1 x2 pin MA
                  replace x0 := pw_cell_below HB.out x0
                  replace x1 := pw_cell_below HB.out x1
                  replace x2 := pw_cell_below HB.out x2
                  obtain ⟨s, hs⟩ : ∃ s, s = x.f0 + ai := ⟨_, rfl⟩
                  have hs1 : wrap64 (ai + x.f0) = s := (wrap_id (by have := AI.out; omega) (by have := AI.out; omega)).trans (by omega)
                  rw [← hs] at MA
                  have hs2 : IntKind.i64.wrap (ai + x.f0) = s := (i64_w _).trans hs1
                  clear hs pin
                  go_upto_region 23 with ((with_reducible refine gate_dst (N := 20) rfl ?_); refine box_event ?hg (N := 20) ?hd (cs := #[.int .i64 0, .int .i64 0, .int .i64 0]) (t := 143) ?hr ?_; (case hd => rfl); (case hg => rfl); (case hr => first | (go_simp; done) | (go_simp; rfl)); intro gx ex wx kx bx; have EX := Aside0.mk ex; have KX := Aside0.mk kx; have BX := Aside0.mk bx; clear ex kx bx; have kx0 : wx.cell? ⟨gx, 0, none⟩ = some (.int .i64 0) := (blk_cell KX.out 0).trans rfl; have zkx0 := blk_frozen KX.out 0; have kx1 : wx.cell? ⟨gx, 1, none⟩ = some (.int .i64 0) := (blk_cell KX.out 1).trans rfl; have zkx1 := blk_frozen KX.out 1; have kx2 : wx.cell? ⟨gx, 2, none⟩ = some (.int .i64 0) := (blk_cell KX.out 2).trans rfl; have zkx2 := blk_frozen KX.out 2)
                  have FX := Aside0.mk (fill3t (y0 := .int .i64 x.f0) (y1 := .int .i64 x.f1) (y2 := .int .i64 x.f2) KX.out BX.out (Nat.le_of_eq EX.out.symm))
                  clear kx0 zkx0 kx1 zkx1 kx2 zkx2 KX BX EX x0 x1 x2
                  generalize (((wx.setCell ⟨gx, 0, none⟩ (.int .i64 x.f0)).setCell ⟨gx, 1, none⟩ (.int .i64 x.f1)).setCell ⟨gx, 2, none⟩ (.int .i64 x.f2)) = w6 at FX ⊢
                  have kx0 : w6.cell? ⟨gx, 0, none⟩ = some (.int .i64 x.f0) := (blk_cell FX.out.2 0).trans rfl
                  have HO := Aside0.mk (Kd.R_below HO.out FX.out.1)
                  have HB := Aside0.mk (below_step HB.out FX.out.1)
                  clear FX
                  have W2 := Aside0.mk (show wrap64 ((k : Int) + 1) = ((k + 1 : Nat) : Int) from (wrap_id (by omega) (by have := P1.out; omega)).trans (by omega))
                  by_cases hf : fr < s
                  · have hf' : decide (fr < s) = true := decide_eq_true hf
                    have hf2 : decide (s > fr) = true := decide_eq_true hf
                    by_cases ht : s ≤ tt
                    · have ht' : decide (s ≤ tt) = true := decide_eq_true ht
                      have H1 := Aside0.mk (MA.out.trans (if_pos ⟨hf, ht⟩))
                      go_wp2_with (at_builtin; refine Kd.R_append k154 (w0 := w1) w1.heap.size rfl (.tmp 157) (.tmp 162) 144 146 (.agg #[.int .i64 0, .int .i64 0, .int .i64 0]) 24 rfl Try.underlying144 info146 rfl (by decide) (by decide) u16 (metTo ps ax fr tt i ++ rowTo ps ai (i : Int) fr tt k) ⟨s, (i : Int), (k : Int)⟩ [.int .i64 s, .int .i64 (i : Int), .int .i64 (k : Int)] (fun _ => True) (fun _ => False) rfl rfl (k154_mkM _ _ _ ⟨s, (i : Int), (k : Int)⟩) (fun k hk => hk.elim) (fun _ _ => trivial) HO.out HB.out HB.out.size (by have := HL.out; omega) ?_; intro vn wn hsn hbn hgn _; have HN := Aside0.mk hsn; have HBN := Aside0.mk hbn; clear hsn hbn hgn)
                      go_roundg go2
                      case measure => omega
                      case rel => exact ⟨k + 1, congrArg (Value.int .i64) (by first | exact W2.out | omega), ⟨by have := HK.out; omega⟩, ⟨by rw [RS.out, H1.out, ← List.append_assoc]; exact HN.out⟩, HBN⟩
                    · have ht' : decide (s ≤ tt) = false := decide_eq_false ht
                      have H1 := Aside0.mk (MA.out.trans (if_neg (fun q => ht q.2)))
                      go_wp2_with fail
                      go_roundg go2
                      case measure => omega
                      case rel => exact ⟨k + 1, congrArg (Value.int .i64) (by first | exact W2.out | omega), ⟨by have := HK.out; omega⟩, ⟨by rw [RS.out, H1.out, List.append_nil]; exact HO.out⟩, HB⟩
                  · have hf' : decide (fr < s) = false := decide_eq_false hf
                    have hf2 : decide (s > fr) = false := decide_eq_false hf
                    have H1 := Aside0.mk (MA.out.trans (if_neg (fun q => hf q.1)))
                    go_wp2_with fail
                    go_roundg go2
                    case measure => omega
                    case rel => exact ⟨k + 1, congrArg (Value.int .i64) (by first | exact W2.out | omega), ⟨by have := HK.out; omega⟩, ⟨by rw [RS.out, H1.out, List.append_nil]; exact HO.out⟩, HB⟩
                · have hkt' : decide ((k : Int) < (ps.length : Int)) = false := decide_eq_false (by omega)
                  have HKE := Aside0.mk (show k = ps.length by have := HK.out; omega)
                  have W1 := Aside0.mk (show wrap64 ((i : Int) + 1) = ((i + 1 : Nat) : Int) from (wrap_id (by omega) (by have := I200.out; omega)).trans (by omega))
                  go_wp2_with fail
                  go_roundg go1
                  case measure => omega
                  case rel => exact ⟨i + 1, congrArg (Value.int .i64) (by first | exact W1.out | omega), ⟨by have := HI.out; omega⟩, ⟨by rw [GS.out, ← HKE.out]; exact HO.out⟩, HB⟩
            · have hit' : decide ((i : Int) < (ax.length : Int)) = false := decide_eq_false (by omega)
              have hi : i = ax.length := by have := HI.out; omega
              rw [hi] at HO
              clear hi
              have HO : Aside0 (Kd.R k154 146 wr w1.heap.size (fun _ => True) u16 (mets ps ax fr tt)) := HO
              have HML := Aside0.mk (show (mets ps ax fr tt).length ≤ 24000 from Nat.le_trans (metTo_len ps ax fr tt ax.length) (Nat.le_trans (Nat.mul_le_mul P2.out P1.out) (by omega)))
              have HND := Aside0.mk (mets_nodup ps ax fr tt)
              have HXM := Aside0.mk (fun x (h : x ∈ mets ps ax fr tt) => mem_mets.1 h)
              have HBD := Aside0.mk (show ∀ x ∈ mets ps ax fr tt, BdM x from fun x hx => by
                obtain ⟨ia, kp, hia, hkp, e, -⟩ := mem_mets.1 hx
                have h1 := post_in HPT.out kp hkp
                have h2 := axle_in HAT.out ia hia
                have h3 := P1.out
                have h4 := P2.out
                rw [e]
                unfold BdM
                dsimp only
                omega)
              have RES := Aside0.mk (show res = (sortM (mets ps ax fr tt)).map (evOf ps) from RES.out)
              generalize mets ps ax fr tt = xs at HO HML HND HXM HBD RES
              obtain ⟨Am, cm, rfl⟩ := Kd.R_slice HO.out
              go_upto_region 29 with (go_at_call 120; refine (sort_any HO.out HND.out HBD.out (by have := HML.out; omega)).mono ?_; rintro e w10 ⟨rfl, ho, hg⟩; have HB := Aside0.mk (pw_below_grown HB.out _ HB.out.size hg (fun m hm => Kd.R_base HO.out _ hm)); have HO := Aside0.mk ho; clear ho hg)
              obtain ⟨zs, hzs⟩ : ∃ zs, zs = sortM xs := ⟨_, rfl⟩
              have HZL := Aside0.mk (show zs.length = xs.length by rw [hzs, sortM_len])
              have HXM := Aside0.mk (fun x (h : x ∈ zs) => HXM.out x (mem_sortM.1 (hzs ▸ h)))
              have HZE := Aside0.mk hzs
              have HZ := Aside0.mk (show Kd.C k154 w10 Am xs.length zs by have h := (Kd.R_reads' HO.out).2.2; rw [sortM_len] at h; rw [hzs]; exact h)
              clear hzs
              have HR1 := Aside0.mk (Kd.C_below HR1.out HB.out)
              go_wp2_with fail
              go_loopg [22, 170] xs.length (fun kq v22 v170 w' => ∃ i : Nat, v170 = .int .i64 i ∧ Aside0 (i + kq = xs.length) ∧ Aside0 (Kd.R k56 56 w' w10.heap.size (fun _ => True) v22 ((zs.take i).map (evOf ps))) ∧ Aside0 (Below w10.heap.size w10 w'))
              case atStart => exact ⟨0, rfl, ⟨by omega⟩, ⟨Kd.R_nil _ _ _ _ _⟩, ⟨Below.refl _ _⟩⟩
              case round =>
                obtain ⟨m, rfl, HM, HQ, HE⟩ := hrel
                by_cases hmt : m < xs.length
                · cases gk with
                  | zero => exact absurd HM.out (by omega)
                  | succ go2 =>
                    have hmt' : decide ((m : Int) < (xs.length : Int)) = true := decide_eq_true (by omega)
                    obtain ⟨adz, e, x0, x1, x2⟩ := at_T154 HZ.out (m : Int) (by omega) (by omega)
                    cases e
                    rw [Int.toNat_natCast] at x0 x1 x2
                    have hmz : m < zs.length := by rw [HZL.out]; exact hmt
                    have hrd : rd_T154 zs (m : Int) = zs[m] := by simp [rd_T154, hmz]
                    have hx := HXM.out (rd_T154 zs (m : Int)) (by rw [hrd]; exact List.getElem_mem hmz)
                    have TS := Aside0.mk (show (zs.take (m + 1)).map (evOf ps) = (zs.take m).map (evOf ps) ++ [evOf ps (rd_T154 zs (m : Int))] by rw [List.take_succ_eq_append_getElem hmz, List.map_append, hrd]; rfl)
                    clear hrd hmz
                    generalize rd_T154 zs (m : Int) = x at x0 x1 x2 hx TS
                    obtain ⟨ia, kp, -, hkp, ex, -⟩ := hx
                    have hx2 : x.f2 = (kp : Int) := by rw [ex]
                    have EX2 := Aside0.mk hx2
                    rw [hx2] at x2
                    clear ex hx2
                    replace x0 := pw_cell_below HE.out x0
                    replace x1 := pw_cell_below HE.out x1
                    replace x2 := pw_cell_below HE.out x2
                    have hkp0 : (0 : Int) ≤ (kp : Int) := by omega
                    have hkp' : decide ((kp : Int) < (ps.length : Int)) = true := decide_eq_true (by omega)
                    have TL := Aside0.mk (show ((zs.take m).map (evOf ps)).length ≤ 24000 by rw [List.length_map, List.length_take]; have := HML.out; have := HZL.out; omega)
                    have W3 := Aside0.mk (show wrap64 ((m : Int) + 1) = ((m + 1 : Nat) : Int) from (wrap_id (by omega) (by have := HML.out; omega)).trans (by omega))
                    go_upto_region 33 with ((with_reducible refine gate_dst (N := 24) rfl ?_); refine box_event ?hg (N := 24) ?hd (cs := #[.int .i64 0, .int .i64 0, .int .i64 0]) (t := 146) ?hr ?_; (case hd => rfl); (case hg => rfl); (case hr => first | (go_simp; done) | (go_simp; rfl)); intro gx ex wx kx bx; have EX := Aside0.mk ex; have KX := Aside0.mk kx; have BX := Aside0.mk bx; clear ex kx bx; have kx0 : wx.cell? ⟨gx, 0, none⟩ = some (.int .i64 0) := (blk_cell KX.out 0).trans rfl; have zkx0 := blk_frozen KX.out 0; have kx1 : wx.cell? ⟨gx, 1, none⟩ = some (.int .i64 0) := (blk_cell KX.out 1).trans rfl; have zkx1 := blk_frozen KX.out 1; have kx2 : wx.cell? ⟨gx, 2, none⟩ = some (.int .i64 0) := (blk_cell KX.out 2).trans rfl; have zkx2 := blk_frozen KX.out 2)
                    have FX := Aside0.mk (fill3t (y0 := .int .i64 x.f0) (y1 := .int .i64 x.f1) (y2 := .int .i64 (kp : Int)) KX.out BX.out (Nat.le_of_eq EX.out.symm))
                    have NX := Aside0.mk (show ∀ k, (u22 : Value).ownBlock = some k → k < gx from fun k hk => by rw [EX.out]; exact Kd.R_lt HQ.out k hk)
                    clear kx0 zkx0 kx1 zkx1 kx2 zkx2 KX BX EX x0 x1 x2
                    generalize (((wx.setCell ⟨gx, 0, none⟩ (.int .i64 x.f0)).setCell ⟨gx, 1, none⟩ (.int .i64 x.f1)).setCell ⟨gx, 2, none⟩ (.int .i64 (kp : Int))) = w13 at FX ⊢
                    have HQ := Aside0.mk (Kd.R_below HQ.out (below_drew1 FX.out.1))
                    have HE := Aside0.mk (below_drew1 (below_step HE.out FX.out.1))
                    have KX := Aside0.mk (blk_drew FX.out.2)
                    clear FX
                    obtain ⟨adp, e, p0, p1, p2⟩ := at_T143 HR1.out (kp : Int) (by omega) (by omega)
                    cases e
                    rw [Int.toNat_natCast] at p0 p1 p2
                    have EV := Aside0.mk (show evOf ps x = ⟨1, (rd_T143 ps (kp : Int)).f1, (rd_T143 ps (kp : Int)).f2⟩ by rw [evOf, EX2.out])
                    generalize rd_T143 ps (kp : Int) = pp at p0 p1 p2 EV
                    have P1B := Aside0.mk p1
                    have P2B := Aside0.mk p2
                    replace p1 := pw_cell_below HE.out p1
                    replace p2 := pw_cell_below HE.out p2
                    clear p0
                    have kx2 : w13.drew.cell? ⟨gx, 2, none⟩ = some (.int .i64 (kp : Int)) := (blk_cell KX.out 2).trans rfl
                    refine startK 17 (S := fun w' => w'.cell? ⟨gx, 2, none⟩ = some (.int .i64 (kp : Int)) ∧ w'.cell? ⟨(adp.add (kp * 3)).block, (adp.add (kp * 3)).off + 1, none⟩ = some (.int .i64 pp.f1) ∧ w'.cell? ⟨(adp.add (kp * 3)).block, (adp.add (kp * 3)).off + 2, none⟩ = some (.int .i64 pp.f2)) (ds := []) (by kernel_rfl) rfl ⟨kx2, p1, p2⟩ (fun hHeld => ?_)
                    refine with_tabW ip_tab33 ip_bits33 (fun HT_ HW_ => ?_)
                    repeat (first
                      | (refine take0 (v := ?_) (a' := ?_) (by simp only [Nat.reduceAdd]; rfl) (by rfl) HT_.out HW_.out (by kernel_rfl) (by exact fun _ _ _ h => h) hHeld ?_ ?_ ?_; rotate_left 2; (· rintro w' ⟨s0, s1, s2⟩; go_simp; with_reducible rfl); (· simp only [Act.put, List.setIfInBounds_toArray, List.set_cons_zero, List.set_cons_succ, i64_w, i32_w]; rfl))
                      | (refine takeG (v := ?_) (a' := ?_) (by simp only [Nat.reduceAdd]; rfl) (by rfl) (by rfl) HT_.out HW_.out (by kernel_rfl) (by exact fun _ _ _ h => h) hHeld ?_ ?_ ?_; rotate_left 2; (· first | (rw [if_neg (by decide)]; done) | (rw [if_pos (by decide)]; rintro w' ⟨s0, s1, s2⟩; go_simp; with_reducible rfl)); (· simp only [Act.put, List.setIfInBounds_toArray, List.set_cons_zero, List.set_cons_succ, i64_w, i32_w]; rfl))
                      | (refine oneK (by simp only [Nat.reduceAdd]; rfl) (by rfl) HT_.out (by kernel_rfl) (by decide) (fun K hK => ?_); refine Kd.R_lit_step k56 (w0 := w10) w10.heap.size 56 ?hg (N := 188) ?hd (xs := [(⟨1, pp.f1, pp.f2⟩ : S56)]) (inner := [.int .i64 1, .int .i64 pp.f1, .int .i64 pp.f2]) (ok := fun k_ => some k_ ≠ (u22 : Value).ownBlock) (okp := fun _ => False) ?hr ?hp (fun _ hk => hk.elim) (lit_fresh2 HQ.out) HE.out (below_size HE.out) (by simp) ?_; (case hd => rfl); (case hg => rfl); (case hr => first | (go_simp; done) | (go_simp; rfl)); (case hp => exact (Reps.c3 (show Kd.M k56 _ _ _ (⟨1, pp.f1, pp.f2⟩ : S56) [.int .i64 1, .int .i64 pp.f1, .int .i64 pp.f2] from (k56_mkM _ _ _ (⟨1, pp.f1, pp.f2⟩ : S56))) (Reps.none _ _))); intro v10 w15 ho hb2 hg hn; obtain ⟨A10, c10, rfl⟩ := Kd.R_slice ho; have R10 := Aside0.mk (Kd.R_reads' ho); have hb := lit_below2 hg; have HQ := Aside0.mk (Kd.R_below HQ.out hb); have HE := Aside0.mk hb2; have KX := Aside0.mk (blk_below KX.out hb); refine hK.out _ _ ⟨pw_cell_below hb hHeld.1, pw_cell_below hb hHeld.2.1, pw_cell_below hb hHeld.2.2⟩ (fun hHeld => ?_); clear ho hb hb2 hg hn hK K; refine norm_ (a' := ?_) ?_ ?_; rotate_left; · simp only [Act.put, List.setIfInBounds_toArray, List.set_cons_zero, List.set_cons_succ, i64_w, i32_w]; rfl)
                      | (refine oneK (by simp only [Nat.reduceAdd]; rfl) (by rfl) HT_.out (by kernel_rfl) (by decide) (fun K hK => ?_); refine Kd.R_append_rows_step k56 (w0 := w10) w10.heap.size (by rfl) (.tmp 174) (.tmp 188) 35 56 (.agg #[(.int .i64 0), (.int .i64 0), (.int .i64 0)]) 24 rfl Try.underlying35 infoE56 rfl (by decide) (by omega) u22 ((zs.take m).map (evOf ps)) [(⟨1, pp.f1, pp.f2⟩ : S56)] _ _ _ (fun _ => True) (fun _ => False) rfl rfl HQ.out R10.out.2.2 (fun x cs h => h) (fun _ h => h.elim) (fun _ _ => trivial) HE.out (below_size HE.out) (by have := TL.out; simp only [List.length_cons, List.length_nil]; omega) ?_; intro vn wn ho hb hg hat; have HN := Aside0.mk ho; have HBN := Aside0.mk hb; have KXN := Aside0.mk ((hg.block gx (blk_lt KX.out) (fun e => by have := NX.out gx e.symm; omega)).trans KX.out); refine hK.out _ _ ⟨(blk_cell KXN.out 2).trans rfl, pw_cell_below hb P1B.out, pw_cell_below hb P2B.out⟩ (fun hHeld => ?_); clear ho hb hg hat hK K; refine norm_ (a' := ?_) ?_ ?_; rotate_left; · simp only [Act.put, List.setIfInBounds_toArray, List.set_cons_zero, List.set_cons_succ, i64_w, i32_w]; rfl))
                    refine done_ (done_of HT_.out (by kernel_rfl)) ?_
                    go_wp2_with fail
                    go_roundg go2
                    case measure => omega
                    case rel => exact ⟨m + 1, congrArg (Value.int .i64) (by first | exact W3.out | omega), ⟨by have := HM.out; omega⟩, ⟨by rw [TS.out, EV.out]; exact HN.out⟩, HBN⟩
                · have hmt' : decide ((m : Int) < (xs.length : Int)) = false := decide_eq_false (by omega)
                  have HQ := Aside0.mk (show Kd.R k56 56 wr w10.heap.size (fun _ => True) u22 res by have h := HQ.out; rw [List.take_of_length_le (by rw [HZL.out]; omega), HZE.out, ← RES.out] at h; exact h)
                  go_wp2_with fail
                  go_ret
                  exact ⟨_, rfl, Kd.R_lower HQ.out (Nat.le_trans BL.out.size HB.out.size), below_step (below_step BL.out HB.out) HE.out⟩
end Go.Proofs.Ytpdnabhpkdchjaa.P
namespace Go.Proofs.Ytpdnabhpkdchjaa.P
open Go.RowKit Go.Proofs.YtpdnabhpkdchjaaW.PrintWords Go.Proofs.YtpdnabhpkdchjaaW.PrintLast Go.Proofs.YtpdnabhpkdchjaaW.PrintMore
set_option linter.unusedVariables false
theorem ipassing_is (n : Int) (A : Option Addr) (c : Nat) (l : List S88) (A1 : Option Addr) (c1 : Nat) (ps : List S143) (A2 : Option Addr) (c2 : Nat) (ax : List Int) (fr tt : Int) (w : World) (hr : Kd.C k88 w A l.length l) (hc : l.length ≤ c) (hr1 : Kd.C k143 w A1 ps.length ps) (hc1 : ps.length ≤ c1) (hr2 : Kd.C (Kd.int .i64) w A2 ax.length ax) (hc2 : ax.length ≤ c2) (hp : ps.length ≤ 1048576) (ha : ax.length ≤ 1048576) :
    Calls Try.prog 75 #[.agg #[.int .i64 n, .slice A l.length c], .slice A1 ps.length c1, .slice A2 ax.length c2, .int .i64 fr, .int .i64 tt] w fun e w' => ∃ v0_ : Value, e = .returned v0_ ∧ Kd.R k56 56 w' w.heap.size (fun _ => True) v0_ (passing n l ps ax fr tt) ∧ Below w.heap.size w w' := by
  by_cases t0 : layoutOk n l = 0
  · by_cases t1 : ps.length ≤ 120
    · by_cases t2 : ax.length ≤ 200
      · cases t3 : farB fr
        · have e : passOk n l ps ax fr tt = false := by unfold farB at t3; rw [passOk, t3]; simp
          rw [passing, e, if_neg (by decide)]
          exact ipass_no3 n A c l A1 c1 ps A2 c2 ax fr tt w hr hc hr1 hc1 hr2 hc2 hp ha t0 t1 t2 t3
        · cases t4 : farB tt
          · have e : passOk n l ps ax fr tt = false := by rw [passOk]; unfold farB at t3 t4; rw [Bool.and_eq_true, decide_eq_true_eq, decide_eq_true_eq] at t3; rw [bad_to t3.1 t4, Bool.and_false]
            rw [passing, e, if_neg (by decide)]
            exact ipass_no4 n A c l A1 c1 ps A2 c2 ax fr tt w hr hc hr1 hc1 hr2 hc2 hp ha t0 t1 t2 t3 t4
          · by_cases t5 : fr ≤ tt
            · have h3 := far_yes t3
              have h4 := far_yes t4
              have e : passing n l ps ax fr tt = if (postsTo l ps ps.length && axlesTo ax ax.length) = true then trainEvs ps ax fr tt else [] := by
                rw [passing, passOk, decide_eq_true t0, decide_eq_true t1, decide_eq_true t2, decide_eq_true h3.1, decide_eq_true h3.2, decide_eq_true t5, decide_eq_true h4.2]; simp
              rw [e]
              exact ipass_yes n A c l A1 c1 ps A2 c2 ax fr tt w hr hc hr1 hc1 hr2 hc2 hp ha t0 t1 t2 t3 t4 t5
            · have e : passOk n l ps ax fr tt = false := by rw [passOk, decide_eq_false t5]; simp
              rw [passing, e, if_neg (by decide)]
              exact ipass_no5 n A c l A1 c1 ps A2 c2 ax fr tt w hr hc hr1 hc1 hr2 hc2 hp ha t0 t1 t2 t3 t4 (by omega)
      · have e : passOk n l ps ax fr tt = false := by rw [passOk, decide_eq_false t2]; simp
        rw [passing, e, if_neg (by decide)]
        exact ipass_no2 n A c l A1 c1 ps A2 c2 ax fr tt w hr hc hr1 hc1 hr2 hc2 hp ha t0 t1 (by omega)
    · have e : passOk n l ps ax fr tt = false := by rw [passOk, decide_eq_false t1]; simp
      rw [passing, e, if_neg (by decide)]
      exact ipass_no1 n A c l A1 c1 ps A2 c2 ax fr tt w hr hc hr1 hc1 hr2 hc2 hp ha t0 (by omega)
  · have e : passOk n l ps ax fr tt = false := by rw [passOk, decide_eq_false t0]; simp
    rw [passing, e, if_neg (by decide)]
    exact ipass_no0 n A c l A1 c1 ps A2 c2 ax fr tt w hr hc hr1 hc1 hr2 hc2 hp ha _ rfl (by simp [t0])
end Go.Proofs.Ytpdnabhpkdchjaa.P
namespace Go.Proofs.Ytpdnabhpkdchjaa.P
open Go.RowKit Go.Proofs.YtpdnabhpkdchjaaW.PrintWords Go.Proofs.YtpdnabhpkdchjaaW.PrintLast Go.Proofs.YtpdnabhpkdchjaaW.PrintMore
set_option linter.unusedVariables false
theorem R_off {α : Type} {d : Kd α} {e : Nat} {w : World} {base : Nat} {ok : Nat → Prop} {v : Value} {xs : List α} (hE : d.E = []) (h : d.R e w base ok v xs) {p : Addr} (hne : some p.block ≠ v.ownBlock) (u : Value) : d.R e (w.setCell p u) base (fun _ => True) v xs :=
  Kd.R_mono (Kd.R_far (Kd.R_tight hE h) (fun k hk hp => hne (hp ▸ hk)) u) (fun _ _ => trivial)
theorem R_on {α : Type} {d : Kd α} {e : Nat} {w w' : World} {base : Nat} {ok : Nat → Prop} {v : Value} {xs : List α} (hE : d.E = []) (h : d.R e w base ok v xs) {row : Option Nat} (hg : w.grownBy w' row) (hne : row ≠ v.ownBlock) : d.R e w' base (fun _ => True) v xs :=
  Kd.R_mono (Kd.R_step (Kd.R_tight hE h) (fun k hk hlt => hg.block k hlt (fun c => hne (c ▸ hk)))) (fun _ _ => trivial)
theorem R_up {α : Type} {d : Kd α} {e : Nat} {w w' : World} {base : Nat} {ok : Nat → Prop} {v : Value} {xs : List α} (h : d.R e w base ok v xs) (hb : Below w.heap.size w w') : d.R e w' base (fun _ => True) v xs :=
  Kd.R_mono (Kd.R_step h (fun k hk hlt => hb.block k hlt)) (fun _ _ => trivial)
end Go.Proofs.Ytpdnabhpkdchjaa.P
namespace Go.Proofs.Ytpdnabhpkdchjaa.P
open Go.RowKit Go.Proofs.YtpdnabhpkdchjaaW.PrintWords Go.Proofs.YtpdnabhpkdchjaaW.PrintLast Go.Proofs.YtpdnabhpkdchjaaW.PrintMore
set_option linter.unusedVariables false
set_option linter.unusedSimpArgs false
structure MlSt (wI : World) (b0 : Nat) (w : World) (gr gl : Nat) (n : Int) (v1 v2 : Value) (cs : List S88) (ps : List S143) : Prop where
  hr : w.heap[gr]? = some (.cells #[.int .i64 0, .slice none 0 0] 30 (0, 0))
  hl : w.heap[gl]? = some (.cells #[.int .i64 n, v1] 30 (0, 0))
  H1 : Kd.R k88 88 w b0 (fun _ => True) v1 cs
  H2 : Kd.R k143 143 w b0 (fun _ => True) v2 ps
  hB : Below wI.heap.size wI w
  b1 : wI.heap.size ≤ b0
  b2 : b0 ≤ w.heap.size
  rlt : gr < b0
  llt : gl < b0
  lge : wI.heap.size ≤ gl
  rge : wI.heap.size ≤ gr
  ne : gr ≠ gl
section
variable {wI w w' : World} {b0 gr gl : Nat} {n : Int} {v1 v2 v1' v2' : Value} {cs cs' : List S88} {ps ps' : List S143}
theorem MlSt.up (h : MlSt wI b0 w gr gl n v1 v2 cs ps) (hb : Below w.heap.size w w') : MlSt wI b0 w' gr gl n v1 v2 cs ps :=
  ⟨blk_below h.hr hb, blk_below h.hl hb, R_up h.H1 hb, R_up h.H2 hb, below_step h.hB hb, h.b1, Nat.le_trans h.b2 hb.size, h.rlt, h.llt, h.lge, h.rge, h.ne⟩
theorem MlSt.ne1 (h : MlSt wI b0 w gr gl n v1 v2 cs ps) {g : Nat} (hg : g < b0) : some g ≠ v1.ownBlock := fun e => by have := Kd.R_base h.H1 g e.symm; omega
theorem MlSt.ne2 (h : MlSt wI b0 w gr gl n v1 v2 cs ps) {g : Nat} (hg : g < b0) : some g ≠ v2.ownBlock := fun e => by have := Kd.R_base h.H2 g e.symm; omega
theorem MlSt.apart (h : MlSt wI b0 w gr gl n v1 v2 cs ps) : v1.ownBlock ≠ v2.ownBlock ∨ v1.ownBlock = none := by
  cases hv : v1.ownBlock with
  | none => exact .inr rfl
  | some k =>
    obtain ⟨inner, ho⟩ := Kd.R_own h.H1
    obtain ⟨cells, hc⟩ := own_typed ho k hv
    exact .inl (Kd.R_ne h.H2 hc (by decide))
theorem MlSt.apart2 (h : MlSt wI b0 w gr gl n v1 v2 cs ps) : v2.ownBlock ≠ v1.ownBlock ∨ v2.ownBlock = none := by
  cases hv : v2.ownBlock with
  | none => exact .inr rfl
  | some k =>
    obtain ⟨inner, ho⟩ := Kd.R_own h.H2
    obtain ⟨cells, hc⟩ := own_typed ho k hv
    exact .inl (Kd.R_ne h.H1 hc (by decide))
theorem up_none {W W' : World} (hg : W.grownBy W' none) : Below W.heap.size W W' := (Below.refl _ _).grown hg (Nat.le_refl _) (fun _ e => nomatch e)
theorem MlSt.cs1 (h : MlSt wI b0 w gr gl n v1 v2 cs ps) (hg : w.grownBy w' v1.ownBlock) :
    w'.heap[gr]? = some (.cells #[.int .i64 0, .slice none 0 0] 30 (0, 0)) ∧ w'.heap[gl]? = some (.cells #[.int .i64 n, v1] 30 (0, 0)) ∧ Kd.R k143 143 w' b0 (fun _ => True) v2 ps ∧ Below wI.heap.size wI w' := by
  refine ⟨(hg.block gr (blk_lt h.hr) (h.ne1 h.rlt)).trans h.hr, (hg.block gl (blk_lt h.hl) (h.ne1 h.llt)).trans h.hl, ?_, pw_below_grown h.hB _ h.hB.size hg (fun k hk => Nat.le_trans h.b1 (Kd.R_base h.H1 k hk))⟩
  rcases h.apart with ha | ha
  · exact R_on rfl h.H2 hg ha
  · rw [ha] at hg
    exact R_up h.H2 (up_none hg)
theorem MlSt.cs2 (h : MlSt wI b0 w gr gl n v1 v2 cs ps) (H1 : Kd.R k88 88 w' b0 (fun _ => True) v1' cs') (hg : w.grownBy w' v1.ownBlock) : MlSt wI b0 (w'.setCell ⟨gl, 1, none⟩ v1') gr gl n v1' v2 cs' ps := by
  obtain ⟨a, b, d, e⟩ := h.cs1 hg
  refine ⟨blk_far a (fun e => h.ne e) _, blk_put b 1 v1' rfl, R_off rfl H1 (Kd.R_ne H1 b (by decide)) _, R_off rfl d (Kd.R_ne d b (by decide)) _, below_set e h.lge, h.b1, ?_, h.rlt, h.llt, h.lge, h.rge, h.ne⟩
  have hs : w'.heap.size ≤ (w'.setCell ⟨gl, 1, none⟩ v1').heap.size := by simp [World.setCell]
  exact Nat.le_trans h.b2 (Nat.le_trans hg.size hs)
theorem MlSt.pst (h : MlSt wI b0 w gr gl n v1 v2 cs ps) (H2 : Kd.R k143 143 w' b0 (fun _ => True) v2' ps') (hg : w.grownBy w' v2.ownBlock) : MlSt wI b0 w' gr gl n v1 v2' cs ps' := by
  refine ⟨(hg.block gr (blk_lt h.hr) (h.ne2 h.rlt)).trans h.hr, (hg.block gl (blk_lt h.hl) (h.ne2 h.llt)).trans h.hl, ?_, H2, pw_below_grown h.hB _ h.hB.size hg (fun k hk => Nat.le_trans h.b1 (Kd.R_base h.H2 k hk)), h.b1, Nat.le_trans h.b2 hg.size, h.rlt, h.llt, h.lge, h.rge, h.ne⟩
  rcases h.apart2 with ha | ha
  · exact R_on rfl h.H1 hg ha
  · rw [ha] at hg
    exact R_up h.H1 (up_none hg)
theorem MlSt.at_ (h : MlSt wI b0 w gr gl n v1 v2 cs ps) : w.cell? ⟨gl, 0, none⟩ = some (.int .i64 n) ∧ w.cell? ⟨gl, 1, none⟩ = some v1 ∧ w.frozen? ⟨gl, 0, none⟩ = false ∧ w.frozen? ⟨gl, 1, none⟩ = false ∧
    w.cell? ⟨gr, 0, none⟩ = some (.int .i64 0) ∧ w.cell? ⟨gr, 1, none⟩ = some (.slice none 0 0) ∧ w.frozen? ⟨gr, 0, none⟩ = false ∧ w.frozen? ⟨gr, 1, none⟩ = false := by
  have a0 := blk_cell h.hl 0
  have a1 := blk_cell h.hl 1
  have b0 := blk_cell h.hr 0
  have b1 := blk_cell h.hr 1
  exact ⟨a0, a1, blk_frozen h.hl 0, blk_frozen h.hl 1, b0, b1, blk_frozen h.hr 0, blk_frozen h.hr 1⟩
end
theorem fill2m {w w' : World} {g t : Nat} {x0 x1 y0 y1 : Value} (hx : w'.heap[g]? = some (.cells #[x0, x1] t (0, 0))) (hb : Below w.heap.size w w') (hg : w.heap.size ≤ g) :
    Below w.heap.size w ((w'.setCell ⟨g, 0, none⟩ y0).setCell ⟨g, 1, none⟩ y1) ∧ ((w'.setCell ⟨g, 0, none⟩ y0).setCell ⟨g, 1, none⟩ y1).heap[g]? = some (.cells #[y0, y1] t (0, 0)) :=
  ⟨below_set (j := 1) (v := y1) (below_set (j := 0) (v := y0) hb hg) hg, blk_put (blk_put hx 0 y0 rfl) 1 y1 rfl⟩
set_option maxHeartbeats 8000000 in
set_option maxRecDepth 100000 in
theorem made_is (n : Nat) (ap : Int) (w : World) (hn : n ≤ 60) (h0 : 0 ≤ ap) (h1 : ap ≤ 1000) :
    Calls Try.prog 74 #[.int .i64 (n : Int), .int .i64 ap] w fun e w' => ∃ v1_ v2_ : Value, e = .returned (.tuple #[.agg #[.int .i64 (n : Int), v1_], v2_]) ∧ Kd.R k88 88 w' w.heap.size (fun _ => True) v1_ (lineC n) ∧ Kd.R k143 143 w' w.heap.size (fun _ => True) v2_ (lineP n ap) ∧ Below w.heap.size w w' := by
  go_enter Try.func74, Try.ntmps74
  go_upto_region 1 with ((with_reducible refine gate_dst (N := 4) rfl ?_); refine box_event ?hg (N := 4) ?hd (cs := #[.int .i64 0, .slice none 0 0]) (t := 30) ?hr ?_; (case hd => rfl); (case hg => rfl); (case hr => first | (go_simp; done) | (go_simp; rfl)); intro gr er wr kr br; have ER := Aside0.mk er; have KR := Aside0.mk kr; have BR := Aside0.mk br; clear er kr br; have kr0 : wr.cell? ⟨gr, 0, none⟩ = some (.int .i64 0) := (blk_cell KR.out 0).trans rfl; have zkr0 := blk_frozen KR.out 0; have kr1 : wr.cell? ⟨gr, 1, none⟩ = some (.slice none 0 0) := (blk_cell KR.out 1).trans rfl; have zkr1 := blk_frozen KR.out 1)
  go_upto_region 2 with ((with_reducible refine gate_dst (N := 6) rfl ?_); refine box_event ?hg (N := 6) ?hd (cs := #[.int .i64 0, .slice none 0 0]) (t := 30) ?hr ?_; (case hd => rfl); (case hg => rfl); (case hr => first | (go_simp; done) | (go_simp; rfl)); intro gl el wl kl bl; have EL := Aside0.mk el; have KL := Aside0.mk kl; have BL := Aside0.mk bl; clear el kl bl; have kl0 : wl.cell? ⟨gl, 0, none⟩ = some (.int .i64 0) := (blk_cell KL.out 0).trans rfl; have zkl0 := blk_frozen KL.out 0; have kl1 : wl.cell? ⟨gl, 1, none⟩ = some (.slice none 0 0) := (blk_cell KL.out 1).trans rfl; have zkl1 := blk_frozen KL.out 1)
  have FX := Aside0.mk (fill2m (y0 := .int .i64 (n : Int)) (y1 := .slice none 0 0) KL.out BL.out (Nat.le_of_eq EL.out.symm))
  have HRR := Aside0.mk (blk_below KR.out FX.out.1)
  have HE := Aside0.mk (show gr < gl ∧ w.heap.size ≤ gr by have h1 := blk_lt KR.out; have h2 := EL.out; have h3 := ER.out; omega)
  have HBI := Aside0.mk (below_step BR.out FX.out.1)
  clear kl0 zkl0 kl1 zkl1 kr0 zkr0 kr1 zkr1 KL BL EL KR BR ER
  generalize ((wl.setCell ⟨gl, 0, none⟩ (.int .i64 (n : Int))).setCell ⟨gl, 1, none⟩ (.slice none 0 0)) = w2 at FX HRR HBI ⊢
  have ST := Aside0.mk (MlSt.mk (wI := w) (b0 := w2.heap.size) HRR.out FX.out.2 (Kd.R_nil k88 88 w2 _ _) (Kd.R_nil k143 143 w2 _ _) HBI.out HBI.out.size (Nat.le_refl _) (blk_lt HRR.out) (blk_lt FX.out.2) (by have := HE.out; omega) (by have := HE.out; omega) (by have := HE.out; omega))
  clear FX HRR HE HBI
  go_wp2_with fail
  go_loopg [7, 8] (n + 1) (fun kq v7 v8 w' => ∃ i : Nat, v8 = .int .i64 i ∧ Aside0 (i + kq = n + 1) ∧ ∃ v1, Aside0 (MlSt w w2.heap.size w' gr gl (n : Int) v1 v7 ((List.range i).map (ctrL n)) ((List.range i).map (postL ap))))
  case atStart => exact ⟨0, rfl, ⟨by omega⟩, _, ST⟩
  case round =>
    clear ST
    obtain ⟨i, rfl, HI, v1, ST⟩ := hrel
    by_cases hit : i ≤ n
    · cases gk with
      | zero => exact absurd HI.out (by omega)
      | succ go1 =>
      have hit' : decide ((i : Int) ≤ (n : Int)) = true := decide_eq_true (by omega)
      have hs1 : wrap64 ((i : Int) - 1) = (i : Int) - 1 := wrap_id (by omega) (by omega)
      obtain ⟨im, him⟩ : ∃ im, im = (i : Int) - 1 := ⟨_, rfl⟩
      have hw1 : wrap64 ((i : Int) - 1) = im := hs1.trans him.symm
      have hw1' : IntKind.i64.wrap ((i : Int) - 1) = im := (i64_w _).trans hw1
      have hm1 : 0 ≤ ap * ((i : Int) + 1) := Int.mul_nonneg h0 (by omega)
      have hm2 : ap * ((i : Int) + 1) ≤ 1000 * ((i : Int) + 1) := Int.mul_le_mul_of_nonneg_right h1 (by omega)
      have W1 := Aside0.mk (show wrap64 ((i : Int) + 1) = ((i + 1 : Nat) : Int) from (wrap_id (by omega) (by omega)).trans (by omega))
      obtain ⟨i1, hi1⟩ : ∃ i1, i1 = ((i + 1 : Nat) : Int) := ⟨_, rfl⟩
      have hw2 : wrap64 ((i : Int) + 1) = i1 := W1.out.trans hi1.symm
      have hw2' : IntKind.i64.wrap ((i : Int) + 1) = i1 := (i64_w _).trans hw2
      obtain ⟨pa, hpa⟩ : ∃ pa, pa = ap * ((i : Int) + 1) := ⟨_, rfl⟩
      have hw3 : wrap64 (ap * i1) = pa := by rw [hi1, hpa, show ((i + 1 : Nat) : Int) = (i : Int) + 1 by omega]; exact wrap_id (by omega) (by omega)
      have hw3' : IntKind.i64.wrap (ap * i1) = pa := (i64_w _).trans hw3
      have HIM := Aside0.mk him
      have HI1 := Aside0.mk hi1
      have HPA := Aside0.mk hpa
      have HIT := Aside0.mk hit
      have CSX := Aside0.mk (show (List.range (i + 1)).map (ctrL n) = (List.range i).map (ctrL n) ++ [ctrL n i] by rw [List.range_succ, List.map_append]; rfl)
      have PSX := Aside0.mk (show (List.range (i + 1)).map (postL ap) = (List.range i).map (postL ap) ++ [postL ap i] by rw [List.range_succ, List.map_append]; rfl)
      have CSL := Aside0.mk (show ((List.range i).map (ctrL n)).length ≤ 100 by simp; omega)
      have PSL := Aside0.mk (show ((List.range i).map (postL ap)).length ≤ 100 by simp; omega)
      generalize (List.range i).map (ctrL n) = cs at ST CSX CSL
      generalize (List.range i).map (postL ap) = ps at ST PSX PSL
      clear him hi1 hpa hm1 hm2 hs1
      go_upto_region 7 with ((with_reducible refine gate_dst (N := 9) rfl ?_); refine box_event ?hg (N := 9) ?hd (cs := #[.int .i64 0, .int .i64 0]) (t := 88) ?hr ?_; (case hd => rfl); (case hg => rfl); (case hr => first | (go_simp; done) | (go_simp; rfl)); intro gx ex wx kx bx; have EX := Aside0.mk ex; have KX := Aside0.mk kx; have BX := Aside0.mk bx; clear ex kx bx; have kx0 : wx.cell? ⟨gx, 0, none⟩ = some (.int .i64 0) := (blk_cell KX.out 0).trans rfl; have zkx0 := blk_frozen KX.out 0; have kx1 : wx.cell? ⟨gx, 1, none⟩ = some (.int .i64 0) := (blk_cell KX.out 1).trans rfl; have zkx1 := blk_frozen KX.out 1)
      have FX := Aside0.mk (fill2m (y0 := .int .i64 im) (y1 := .int .i64 (i : Int)) KX.out BX.out (Nat.le_of_eq EX.out.symm))
      have HGE := Aside0.mk (show w2.heap.size ≤ gx ∧ gx ≠ gl by have h1 := ST.out.b2; have h2 := EX.out; have h3 := blk_lt ST.out.hl; omega)
      have FL := Aside0.mk (fun v => below_set (j := 1) (v := v) FX.out.1 (Nat.le_of_eq EX.out.symm))
      clear kx0 zkx0 kx1 zkx1 KX BX EX
      generalize ((wx.setCell ⟨gx, 0, none⟩ (.int .i64 im)).setCell ⟨gx, 1, none⟩ (.int .i64 (i : Int))) = w3 at FX FL ⊢
      have KX := Aside0.mk FX.out.2
      by_cases hin : i = n
      · have hq : ((i : Int) == (n : Int)) = true := by rw [hin]; exact beq_self_eq_true _
        have HIN := Aside0.mk hin
        clear hin
        have ST := Aside0.mk (ST.out.up (FL.out (.int .i64 (-1))))
        have kx1 : w3.cell? ⟨gx, 1, none⟩ = some (.int .i64 (i : Int)) := (blk_cell KX.out 1).trans rfl
        have zx1 := blk_frozen KX.out 1
        go_upto_region 9 with fail
        have KX := Aside0.mk (blk_put KX.out 1 (.int .i64 (-1)) rfl)
        clear kx1 zx1 FX FL
        generalize w3.setCell ⟨gx, 1, none⟩ (.int .i64 (-1)) = w4 at ST KX ⊢
        have PE := Aside0.mk (show ctrL n i = ⟨im, (-1)⟩ by rw [HIM.out]; unfold ctrL; rw [if_pos HIN.out])
        obtain ⟨a0, a1, af0, af1, -⟩ := ST.out.at_
        have kx0 : w4.cell? ⟨gx, 0, none⟩ = some (.int .i64 im) := (blk_cell KX.out 0).trans rfl
        have kx1 : w4.cell? ⟨gx, 1, none⟩ = some (.int .i64 (-1)) := (blk_cell KX.out 1).trans rfl
        go_upto_region 10 with (at_builtin; refine Kd.R_append k88 (w0 := w4) w2.heap.size rfl (.tmp 26) (.tmp 28) 28 88 (.agg #[.int .i64 0, .int .i64 0]) 16 rfl Try.underlying28 info88 rfl (by decide) (by decide) v1 cs ⟨im, (-1)⟩ [.int .i64 im, .int .i64 (-1)] (fun _ => True) (fun _ => False) rfl rfl (k88_mkM _ _ _ ⟨im, (-1)⟩) (fun k hk => hk.elim) (fun _ _ => trivial) ST.out.H1 (Below.refl _ _) ST.out.b2 (by have := CSL.out; omega) ?_; intro vn wn hsn hbn hgn _; obtain ⟨An, cn, rfl⟩ := Kd.R_slice hsn; rw [List.length_append, List.length_singleton] at hsn ⊢; have HP1 := Aside0.mk (ST.out.cs1 hgn); have SN := Aside0.mk (ST.out.cs2 hsn hgn); have klN : wn.cell? ⟨gl, 1, none⟩ = some v1 := (blk_cell HP1.out.2.1 1).trans rfl; have zlN := blk_frozen HP1.out.2.1 1; clear hsn hbn hgn a0 a1 af0 af1 kx0 kx1)
        clear klN zlN HP1
        generalize wn.setCell ⟨gl, 1, none⟩ (.slice An (cs.length + 1) cn) = w5 at SN ⊢
        go_wp2_with (at_builtin; refine Kd.R_append k143 (w0 := w5) w2.heap.size rfl (.tmp 31) (.tmp 38) 96 143 (.agg #[.int .i64 0, .int .i64 0, .int .i64 0]) 24 rfl Try.underlying96 info143 rfl (by decide) (by decide) u7 ps ⟨pa, (i : Int), 1⟩ [.int .i64 pa, .int .i64 (i : Int), .int .i64 1] (fun _ => True) (fun _ => False) rfl rfl (k143_mkM _ _ _ ⟨pa, (i : Int), 1⟩) (fun k hk => hk.elim) (fun _ _ => trivial) SN.out.H2 (Below.refl _ _) SN.out.b2 (by have := PSL.out; omega) ?_; intro vp wp hsn hbn hgn _; have SN := Aside0.mk (SN.out.pst hsn hgn); clear hsn hbn hgn)
        go_roundg go1
        case measure => omega
        case rel => exact ⟨i + 1, congrArg (Value.int .i64) (by first | exact HI1.out | exact W1.out | omega), ⟨by have := HI.out; omega⟩, _, ⟨by rw [CSX.out, PSX.out, PE.out, show postL ap i = ⟨pa, (i : Int), 1⟩ by rw [HPA.out]; rfl]; exact SN.out⟩⟩
      · have hq : ((i : Int) == (n : Int)) = false := by simp; omega
        have HIN := Aside0.mk hin
        have ST := Aside0.mk (ST.out.up FX.out.1)
        clear FX FL
        go_upto_region 9 with fail
        have PE := Aside0.mk (show ctrL n i = ⟨im, (i : Int)⟩ by rw [HIM.out]; unfold ctrL; rw [if_neg HIN.out])
        obtain ⟨a0, a1, af0, af1, -⟩ := ST.out.at_
        have kx0 : w3.cell? ⟨gx, 0, none⟩ = some (.int .i64 im) := (blk_cell KX.out 0).trans rfl
        have kx1 : w3.cell? ⟨gx, 1, none⟩ = some (.int .i64 (i : Int)) := (blk_cell KX.out 1).trans rfl
        go_upto_region 10 with (at_builtin; refine Kd.R_append k88 (w0 := w3) w2.heap.size rfl (.tmp 26) (.tmp 28) 28 88 (.agg #[.int .i64 0, .int .i64 0]) 16 rfl Try.underlying28 info88 rfl (by decide) (by decide) v1 cs ⟨im, (i : Int)⟩ [.int .i64 im, .int .i64 (i : Int)] (fun _ => True) (fun _ => False) rfl rfl (k88_mkM _ _ _ ⟨im, (i : Int)⟩) (fun k hk => hk.elim) (fun _ _ => trivial) ST.out.H1 (Below.refl _ _) ST.out.b2 (by have := CSL.out; omega) ?_; intro vn wn hsn hbn hgn _; obtain ⟨An, cn, rfl⟩ := Kd.R_slice hsn; rw [List.length_append, List.length_singleton] at hsn ⊢; have HP1 := Aside0.mk (ST.out.cs1 hgn); have SN := Aside0.mk (ST.out.cs2 hsn hgn); have klN : wn.cell? ⟨gl, 1, none⟩ = some v1 := (blk_cell HP1.out.2.1 1).trans rfl; have zlN := blk_frozen HP1.out.2.1 1; clear hsn hbn hgn a0 a1 af0 af1 kx0 kx1)
        clear klN zlN HP1
        generalize wn.setCell ⟨gl, 1, none⟩ (.slice An (cs.length + 1) cn) = w5 at SN ⊢
        go_wp2_with (at_builtin; refine Kd.R_append k143 (w0 := w5) w2.heap.size rfl (.tmp 31) (.tmp 38) 96 143 (.agg #[.int .i64 0, .int .i64 0, .int .i64 0]) 24 rfl Try.underlying96 info143 rfl (by decide) (by decide) u7 ps ⟨pa, (i : Int), 1⟩ [.int .i64 pa, .int .i64 (i : Int), .int .i64 1] (fun _ => True) (fun _ => False) rfl rfl (k143_mkM _ _ _ ⟨pa, (i : Int), 1⟩) (fun k hk => hk.elim) (fun _ _ => trivial) SN.out.H2 (Below.refl _ _) SN.out.b2 (by have := PSL.out; omega) ?_; intro vp wp hsn hbn hgn _; have SN := Aside0.mk (SN.out.pst hsn hgn); clear hsn hbn hgn)
        go_roundg go1
        case measure => omega
        case rel => exact ⟨i + 1, congrArg (Value.int .i64) (by first | exact HI1.out | exact W1.out | omega), ⟨by have := HI.out; omega⟩, _, ⟨by rw [CSX.out, PSX.out, PE.out, show postL ap i = ⟨pa, (i : Int), 1⟩ by rw [HPA.out]; rfl]; exact SN.out⟩⟩
    · have hit' : decide ((i : Int) ≤ (n : Int)) = false := decide_eq_false (by omega)
      have hi : i = n + 1 := by have := HI.out; omega
      have ST := Aside0.mk (show MlSt w w2.heap.size wr gr gl (n : Int) v1 u7 (lineC n) (lineP n ap) by have h := ST.out; rw [hi] at h; exact h)
      clear hi
      obtain ⟨a0, a1, af0, af1, r0, r1, rf0, rf1⟩ := ST.out.at_
      obtain ⟨A1, c1, rfl⟩ := Kd.R_slice ST.out.H1
      obtain ⟨A2, c2, rfl⟩ := Kd.R_slice ST.out.H2
      have KR := Aside0.mk (blk_put (blk_put ST.out.hr 0 (.int .i64 (n : Int)) rfl) 1 (.slice A1 (lineC n).length c1) rfl)
      have HR1 := Aside0.mk (R_off (p := ⟨gr, 1, none⟩) rfl (R_off (p := ⟨gr, 0, none⟩) rfl ST.out.H1 (Kd.R_ne ST.out.H1 ST.out.hr (by decide)) (.int .i64 (n : Int))) (Kd.R_ne ST.out.H1 ST.out.hr (by decide)) (.slice A1 (lineC n).length c1))
      have HR2 := Aside0.mk (R_off (p := ⟨gr, 1, none⟩) rfl (R_off (p := ⟨gr, 0, none⟩) rfl ST.out.H2 (Kd.R_ne ST.out.H2 ST.out.hr (by decide)) (.int .i64 (n : Int))) (Kd.R_ne ST.out.H2 ST.out.hr (by decide)) (.slice A1 (lineC n).length c1))
      have HBB := Aside0.mk (below_set (j := 1) (v := .slice A1 (lineC n).length c1) (below_set (j := 0) (v := .int .i64 (n : Int)) ST.out.hB ST.out.rge) ST.out.rge)
      go_wp2_with fail
      refine bodyPost_ret (results_ct rfl _ _ gr 30 #[.int .i64 (n : Int), .slice A1 (lineC n).length c1] (0, 0) _ rfl KR.out Try.underlying30 rfl (by kernel_rfl)) rfl ?_
      exact ⟨_, _, rfl, Kd.R_lower HR1.out ST.out.b1, Kd.R_lower HR2.out ST.out.b1, HBB.out⟩
end Go.Proofs.Ytpdnabhpkdchjaa.P
namespace Go.Proofs.Ytpdnabhpkdchjaa.P
open Go.RowKit Go.Proofs.YtpdnabhpkdchjaaW.PrintWords Go.Proofs.YtpdnabhpkdchjaaW.PrintLast Go.Proofs.YtpdnabhpkdchjaaW.PrintMore
attribute [local go_sem ↓] Go.wp_at_zero Go.wp_at_succ
set_option linter.unusedVariables false
set_option linter.unusedSimpArgs false
structure DoSt (w0 w : World) (gl gs ge gd : Nat) (lv sv ev dv : List Value) (v1 v2 : Value) (ss : List S50) (dd : List Bool) : Prop where
  hl : w.heap[gl]? = some (.cells lv.toArray 30 (0, 0))
  hs : w.heap[gs]? = some (.cells sv.toArray 46 (0, 0))
  he : w.heap[ge]? = some (.cells ev.toArray 56 (0, 0))
  hd : w.heap[gd]? = some (.cells dv.toArray 48 (0, 0))
  H1 : Kd.R k50 50 w w0.heap.size (fun _ => True) v1 ss
  H2 : Kd.R Kd.bool 4 w w0.heap.size (fun _ => True) v2 dd
  hB : Below w0.heap.size w0 w
  gle : w0.heap.size ≤ gl
  gse : w0.heap.size ≤ gs
  gee : w0.heap.size ≤ ge
  gde : w0.heap.size ≤ gd
theorem DoSt.begin {w0 w : World} {gl gs ge gd : Nat} {lv ev dv : List Value} {x0 x1 x2 v0 v1 v2 : Value} {ss : List S50} {dd : List Bool}
    (hl : w.heap[gl]? = some (.cells lv.toArray 30 (0, 0))) (hs : w.heap[gs]? = some (.cells #[x0, x1, x2] 46 (0, 0))) (he : w.heap[ge]? = some (.cells ev.toArray 56 (0, 0))) (hd : w.heap[gd]? = some (.cells dv.toArray 48 (0, 0)))
    (H1 : Kd.R k50 50 w w0.heap.size (fun _ => True) v1 ss) (H2 : Kd.R Kd.bool 4 w w0.heap.size (fun _ => True) v2 dd) (hB : Below w0.heap.size w0 w)
    (gle : w0.heap.size ≤ gl) (gse : w0.heap.size ≤ gs) (gee : w0.heap.size ≤ ge) (gde : w0.heap.size ≤ gd) (n1 : gl ≠ gs) (n2 : ge ≠ gs) (n3 : gd ≠ gs) :
    DoSt w0 (((w.setCell ⟨gs, 0, none⟩ v0).setCell ⟨gs, 1, none⟩ v1).setCell ⟨gs, 2, none⟩ v2) gl gs ge gd lv [v0, v1, v2] ev dv v1 v2 ss dd where
  hl := blk_far (blk_far (blk_far hl n1 _) n1 _) n1 _
  hs := blk_put (blk_put (blk_put hs 0 v0 rfl) 1 v1 rfl) 2 v2 rfl
  he := blk_far (blk_far (blk_far he n2 _) n2 _) n2 _
  hd := blk_far (blk_far (blk_far hd n3 _) n3 _) n3 _
  H1 := R_off rfl (R_off rfl (R_off rfl H1 (Kd.R_ne H1 hs (by decide)) _) (Kd.R_ne H1 hs (by decide)) _) (Kd.R_ne H1 hs (by decide)) _
  H2 := R_off rfl (R_off rfl (R_off rfl H2 (Kd.R_ne H2 hs (by decide)) _) (Kd.R_ne H2 hs (by decide)) _) (Kd.R_ne H2 hs (by decide)) _
  hB := below_set (below_set (below_set hB gse) gse) gse
  gle := gle
  gse := gse
  gee := gee
  gde := gde
theorem cnt_any (s b : Int) (bo : Bool) (g gr n c : Nat) (v2 : Value) (l : List S50) (w : World) (base : Nat) (ok : Nat → Prop) (h1 : s < n)
    (hb : w.heap[g]? = some (.cells #[.bool bo, .slice (some ⟨gr, 0, none⟩) n c, v2] 46 (0, 0))) (HO : Kd.R k50 50 w base ok (.slice (some ⟨gr, 0, none⟩) n c) l) :
    Calls Try.prog 130 #[.int .i64 s, .int .i64 b, .pointer (some ⟨g, 0, none⟩)] w fun e w' => e = .returned (.tuple #[]) ∧ Kd.R k50 50 w' base ok (.slice (some ⟨gr, 0, none⟩) n c) (addS l s b) ∧ w.grownBy w' (some gr) := by
  by_cases h0 : s < 0
  · refine (cnt_out s b _ w h0).mono ?_
    rintro e w' ⟨he, rfl⟩
    exact ⟨he, by rw [addS, if_pos h0]; exact HO, World.grownBy.refl w _⟩
  · rw [addS, if_neg h0]
    exact cnt_calls s b bo g gr n c v2 l w base ok (by omega) h1 hb HO
theorem lose_any (s : Int) (bo : Bool) (g gr n c : Nat) (v2 : Value) (l : List S50) (w : World) (base : Nat) (ok : Nat → Prop) (h1 : s < n)
    (hb : w.heap[g]? = some (.cells #[.bool bo, .slice (some ⟨gr, 0, none⟩) n c, v2] 46 (0, 0))) (HO : Kd.R k50 50 w base ok (.slice (some ⟨gr, 0, none⟩) n c) l) :
    Calls Try.prog 131 #[.int .i64 s, .pointer (some ⟨g, 0, none⟩)] w fun e w' => e = .returned (.tuple #[]) ∧ Kd.R k50 50 w' base ok (.slice (some ⟨gr, 0, none⟩) n c) (loseAt l s) ∧ w.grownBy w' (some gr) := by
  by_cases h0 : s < 0
  · refine (lose_none s _ w h0).mono ?_
    rintro e w' ⟨he, rfl⟩
    exact ⟨he, by rw [loseAt, if_pos h0]; exact HO, World.grownBy.refl w _⟩
  · rw [loseAt, if_neg h0]
    exact lose_calls s bo g gr n c v2 l w base ok (by omega) h1 hb HO
theorem told_at {n : Int} {A : Option Addr} {c : Nat} {l : List S88} {b : Bool} {A1 : Option Addr} {c1 : Nat} {ss : List S50} {A2 : Option Addr} {c2 : Nat} {dd : List Bool} {w : World} (i : Int) (hr : Kd.C k88 w A l.length l) (hc : l.length ≤ c) (hr1 : Kd.C k50 w A1 ss.length ss) (hc1 : ss.length ≤ c1) (hr2 : Kd.C Kd.bool w A2 dd.length dd) (hc2 : dd.length ≤ c2)
    (hl : l.length ≤ 1048576) (hd : dd.length = l.length) (h0 : 0 ≤ i) (h1 : i < ss.length) :
    Calls Try.prog 97 #[.agg #[.int .i64 n, .slice A l.length c], .agg #[.bool b, .slice A1 ss.length c1, .slice A2 dd.length c2], .int .i64 i] w fun e w' => e = .returned (.int .i64 (toldC l dd i (rd_T50 ss i))) ∧ Below w.heap.size w w' := by
  obtain ⟨k, h⟩ := (implTold_ev n l dd b ss i hl hd h0 h1).rounds
  exact impl_told.calls k n A c l b A1 c1 ss A2 c2 dd i _ w hr hc hr1 hc1 hr2 hc2 h
theorem dead_at {n : Int} {A : Option Addr} {c : Nat} {l : List S88} {b : Bool} {A1 : Option Addr} {c1 : Nat} {ss : List S50} {A2 : Option Addr} {c2 : Nat} {dd : List Bool} {w : World} {x : Bool} (i : Int) (hx : deadAt l dd i = x) (hr : Kd.C k88 w A l.length l) (hc : l.length ≤ c) (hr1 : Kd.C k50 w A1 ss.length ss) (hc1 : ss.length ≤ c1) (hr2 : Kd.C Kd.bool w A2 dd.length dd) (hc2 : dd.length ≤ c2)
    (hl : l.length ≤ 1048576) (hd : dd.length = l.length) :
    Calls Try.prog 98 #[.agg #[.int .i64 n, .slice A l.length c], .agg #[.bool b, .slice A1 ss.length c1, .slice A2 dd.length c2], .int .i64 i] w fun e w' => e = .returned (.bool x) ∧ Below w.heap.size w w' := by
  obtain ⟨k, h⟩ := (implDead_ev n l dd b ss i hl hd).rounds
  rw [← hx]
  exact impl_dead.calls k n A c l b A1 c1 ss A2 c2 dd i _ w hr hc hr1 hc1 hr2 hc2 h
theorem bool_at {w : World} {base : Nat} {ok : Nat → Prop} {g n c : Nat} {dd : List Bool} (h : Kd.R Kd.bool 4 w base ok (.slice (some ⟨g, 0, none⟩) n c) dd) (i : Int) (h0 : 0 ≤ i) (h1 : i < n) :
    w.cell? ⟨g, i.toNat, none⟩ = some (.bool (rdOf false dd i)) ∧ w.frozen? ⟨g, i.toNat, none⟩ = false := by
  obtain ⟨ce, hcl, hM, hcc, hfr⟩ := Kd.R_elem h false i h0 h1
  have hM0 : ce = [.bool (dd.getD i.toNat false)] := hM
  subst hM0
  have e : i.toNat * Kd.bool.sz + 0 = i.toNat := by show i.toNat * 1 + 0 = _; omega
  have q1 := hcc 0 _ rfl
  have q2 := hfr 0
  rw [e] at q1 q2
  exact ⟨q1, q2⟩
theorem own_ge {α : Type} {d : Kd α} {e : Nat} {w : World} {base : Nat} {ok : Nat → Prop} {g n c : Nat} {xs : List α} (h : d.R e w base ok (.slice (some ⟨g, 0, none⟩) n c) xs) : base ≤ g := by
  rcases Kd.R_base2 h with h | ⟨k, hk, hb⟩
  · cases h
  · cases hk; exact hb
section
variable {w0 w w' : World} {gl gs ge gd : Nat} {lv sv ev dv : List Value} {v1 v2 : Value} {ss ss' : List S50} {dd dd' : List Bool}
theorem DoSt.sec {gr m cr : Nat} (h : DoSt w0 w gl gs ge gd lv sv ev dv (.slice (some ⟨gr, 0, none⟩) m cr) v2 ss dd) (H1 : Kd.R k50 50 w' w0.heap.size (fun _ => True) (.slice (some ⟨gr, 0, none⟩) m cr) ss') (hg : w.grownBy w' (some gr)) :
    DoSt w0 w' gl gs ge gd lv sv ev dv (.slice (some ⟨gr, 0, none⟩) m cr) v2 ss' dd where
  hl := blk_grown h.hl hg (Kd.R_ne h.H1 h.hl (by decide))
  hs := blk_grown h.hs hg (Kd.R_ne h.H1 h.hs (by decide))
  he := blk_grown h.he hg (Kd.R_ne h.H1 h.he (by decide))
  hd := blk_grown h.hd hg (Kd.R_ne h.H1 h.hd (by decide))
  H1 := H1
  H2 := R_on rfl h.H2 hg (by
    obtain ⟨inner, ho⟩ := Kd.R_own h.H1
    obtain ⟨cells, hc⟩ := own_typed ho gr rfl
    exact Kd.R_ne h.H2 hc (by decide))
  hB := pw_below_grown h.hB _ h.hB.size hg (fun k hk => by cases hk; exact own_ge h.H1)
  gle := h.gle
  gse := h.gse
  gee := h.gee
  gde := h.gde
theorem DoSt.dead {gb m cb : Nat} (h : DoSt w0 w gl gs ge gd lv sv ev dv v1 (.slice (some ⟨gb, 0, none⟩) m cb) ss dd) (i : Int) (x : Bool) :
    DoSt w0 (w.setCell ⟨gb, i.toNat, none⟩ (.bool x)) gl gs ge gd lv sv ev dv v1 (.slice (some ⟨gb, 0, none⟩) m cb) ss (dd.set i.toNat x) := by
  obtain ⟨H2, hg⟩ := Kd.R_putg h.H2 i x
  exact {
  hl := blk_grown h.hl hg (Kd.R_ne h.H2 h.hl (by decide))
  hs := blk_grown h.hs hg (Kd.R_ne h.H2 h.hs (by decide))
  he := blk_grown h.he hg (Kd.R_ne h.H2 h.he (by decide))
  hd := blk_grown h.hd hg (Kd.R_ne h.H2 h.hd (by decide))
  H1 := R_on rfl h.H1 hg (by
    obtain ⟨inner, ho⟩ := Kd.R_own h.H2
    obtain ⟨cells, hc⟩ := own_typed ho gb rfl
    exact Kd.R_ne h.H1 hc (by decide))
  H2 := H2
  hB := pw_below_grown h.hB _ h.hB.size hg (fun k hk => by cases hk; exact own_ge h.H2)
  gle := h.gle
  gse := h.gse
  gee := h.gee
  gde := h.gde }
theorem DoSt.up (h : DoSt w0 w gl gs ge gd lv sv ev dv v1 v2 ss dd) (hb : Below w.heap.size w w') : DoSt w0 w' gl gs ge gd lv sv ev dv v1 v2 ss dd where
  hl := blk_below h.hl hb
  hs := blk_below h.hs hb
  he := blk_below h.he hb
  hd := blk_below h.hd hb
  H1 := R_up h.H1 hb
  H2 := R_up h.H2 hb
  hB := below_step h.hB hb
  gle := h.gle
  gse := h.gse
  gee := h.gee
  gde := h.gde
theorem DoSt.fill {x0 x1 x2 x3 y0 y1 y2 y3 : Value} (h : DoSt w0 w gl gs ge gd lv sv ev [x0, x1, x2, x3] v1 v2 ss dd) :
    DoSt w0 ((((w.setCell ⟨gd, 0, none⟩ y0).setCell ⟨gd, 1, none⟩ y1).setCell ⟨gd, 2, none⟩ y2).setCell ⟨gd, 3, none⟩ y3) gl gs ge gd lv sv ev [y0, y1, y2, y3] v1 v2 ss dd where
  hl := blk_far (blk_far (blk_far (blk_far h.hl (blk_ne h.hl h.hd (by decide)) _) (blk_ne h.hl h.hd (by decide)) _) (blk_ne h.hl h.hd (by decide)) _) (blk_ne h.hl h.hd (by decide)) _
  hs := blk_far (blk_far (blk_far (blk_far h.hs (blk_ne h.hs h.hd (by decide)) _) (blk_ne h.hs h.hd (by decide)) _) (blk_ne h.hs h.hd (by decide)) _) (blk_ne h.hs h.hd (by decide)) _
  he := blk_far (blk_far (blk_far (blk_far h.he (blk_ne h.he h.hd (by decide)) _) (blk_ne h.he h.hd (by decide)) _) (blk_ne h.he h.hd (by decide)) _) (blk_ne h.he h.hd (by decide)) _
  hd := blk_put (blk_put (blk_put (blk_put h.hd 0 y0 rfl) 1 y1 rfl) 2 y2 rfl) 3 y3 rfl
  H1 := R_off rfl (R_off rfl (R_off rfl (R_off rfl h.H1 (Kd.R_ne h.H1 h.hd (by decide)) _) (Kd.R_ne h.H1 h.hd (by decide)) _) (Kd.R_ne h.H1 h.hd (by decide)) _) (Kd.R_ne h.H1 h.hd (by decide)) _
  H2 := R_off rfl (R_off rfl (R_off rfl (R_off rfl h.H2 (Kd.R_ne h.H2 h.hd (by decide)) _) (Kd.R_ne h.H2 h.hd (by decide)) _) (Kd.R_ne h.H2 h.hd (by decide)) _) (Kd.R_ne h.H2 h.hd (by decide)) _
  hB := below_set (below_set (below_set (below_set h.hB h.gde) h.gde) h.gde) h.gde
  gle := h.gle
  gse := h.gse
  gee := h.gee
  gde := h.gde
end
theorem evOk_cases {n : Int} {l : List S88} {op of dir : Int} (h : eventOk n l op of dir = true) :
    ((op = 1 ∨ op = 2) ∧ 0 ≤ of ∧ of < (l.length : Int) ∧ (dir = 1 ∨ dir = -1)) ∨ ((op = 3 ∨ op = 4) ∧ 0 ≤ of ∧ of < (l.length : Int)) ∨ (op = 5 ∧ 0 ≤ of ∧ of < n) := by
  unfold eventOk at h
  split at h
  · split at h
    · rename_i h1
      simp at h
      exact .inl ⟨h1, h.1.1, h.1.2, h.2⟩
    · split at h
      · rename_i h1
        simp at h
        exact .inr (.inl ⟨h1, h.1.1, h.1.2⟩)
      · split at h
        · rename_i h1
          simp at h
          exact .inr (.inr ⟨h1, h.1.1, h.1.2⟩)
        · cases h
  · cases h
theorem told_of {n : Int} {A : Option Addr} {c : Nat} {l : List S88} {b : Bool} {A1 : Option Addr} {m1 c1 : Nat} {ss : List S50} {A2 : Option Addr} {m2 c2 : Nat} {dd : List Bool} {w : World} {b1 b2 : Nat} {o1 o2 : Nat → Prop} (i : Int) (hr : Kd.C k88 w A l.length l) (hc : l.length ≤ c) (H1 : Kd.R k50 50 w b1 o1 (.slice A1 m1 c1) ss) (H2 : Kd.R Kd.bool 4 w b2 o2 (.slice A2 m2 c2) dd) (e1 : m1 = ss.length) (e2 : m2 = dd.length)
    (hl : l.length ≤ 1048576) (hd : dd.length = l.length) (h0 : 0 ≤ i) (h1 : i < m1) :
    Calls Try.prog 97 #[.agg #[.int .i64 n, .slice A l.length c], .agg #[.bool b, .slice A1 m1 c1, .slice A2 m2 c2], .int .i64 i] w fun e w' => e = .returned (.int .i64 (toldC l dd i (rd_T50 ss i))) ∧ Below w.heap.size w w' := by
  subst e1 e2
  exact told_at i hr hc (Kd.R_reads' H1).2.2 (Kd.R_reads' H1).2.1 (Kd.R_reads' H2).2.2 (Kd.R_reads' H2).2.1 hl hd h0 h1
theorem retold_step (l : List S88) (dd : List Bool) (ss : List S50) (k : Nat) (hk : k < ss.length) :
    (retoldTo l dd ss k).set (k : Int).toNat ⟨toldC l dd (k : Int) (rd_T50 (retoldTo l dd ss k) (k : Int)), (rd_T50 (retoldTo l dd ss k) (k : Int)).f1, (rd_T50 (retoldTo l dd ss k) (k : Int)).f2, (rd_T50 (retoldTo l dd ss k) (k : Int)).f3, (rd_T50 (retoldTo l dd ss k) (k : Int)).f4⟩ = retoldTo l dd ss (k + 1) := by
  rw [Int.toNat_natCast, retoldTo_at l dd ss k hk]
  exact retoldTo_succ l dd ss k hk
set_option maxHeartbeats 4000000 in
set_option maxRecDepth 100000 in
theorem do_is (n : Int) (A : Option Addr) (c : Nat) (l : List S88) (b : Bool) (A1 : Option Addr) (c1 : Nat) (ss : List S50) (A2 : Option Addr) (c2 : Nat) (dd : List Bool) (op of dir : Int) (w : World)
    (hr : Kd.C k88 w A l.length l) (hc : l.length ≤ c) (hr1 : Kd.C k50 w A1 ss.length ss) (hc1 : ss.length ≤ c1) (hr2 : Kd.C Kd.bool w A2 dd.length dd) (hc2 : dd.length ≤ c2)
    (hl : layoutOk n l = 0) (hns : (ss.length : Int) = n) (hnd : dd.length = l.length) (hev : eventOk n l op of dir = true) :
    Calls Try.prog 96 #[.agg #[.int .i64 n, .slice A l.length c], .agg #[.bool b, .slice A1 ss.length c1, .slice A2 dd.length c2], .agg #[.int .i64 op, .int .i64 of, .int .i64 dir]] w fun e w' => ∃ v2_ v3_ : Value, e = .returned (.agg #[.int .i64 (doCode l ss dd op of), .bool true, v2_, v3_]) ∧ Kd.R k50 50 w' w.heap.size (fun _ => True) v2_ (doSecs l ss dd op of dir) ∧ Kd.R Kd.bool 4 w' w.heap.size (fun _ => True) v3_ (doDead l ss dd op of) ∧ Below w.heap.size w w' := by
  have hn := lay_n hl
  have hs : ss.length ≤ 1000000 := by omega
  have hd : dd.length ≤ 1000000 := by omega
  have hpos : 0 < ss.length := by omega
  have HN := Aside0.mk (And.intro hl (And.intro hns (And.intro hnd hev)))
  clear hn hl hns hnd hev
  have f1 : impl_Section.f ss = some ss := by unfold impl_Section.f; rw [if_pos hs]
  have f2 : slices_Clone_bool_bool.f dd = some dd := by unfold slices_Clone_bool_bool.f; rw [if_pos hd]
  have HR := Aside0.mk hr
  have HR1 := Aside0.mk hr1
  have HR2 := Aside0.mk hr2
  clear hr hr1 hr2
  go_enter Try.func96, Try.ntmps96
  go_upto_region 1 with (first | ((with_reducible refine gate_dst (N := 3) rfl ?_); refine box_event ?hg (N := 3) ?hd (cs := #[.int .i64 n, .slice A l.length c]) (t := 30) ?hr ?_; (case hd => rfl); (case hg => rfl); (case hr => first | (go_simp; done) | (go_simp; rfl)); intro gl el wl kl bl) | ((with_reducible refine gate_dst (N := 4) rfl ?_); refine box_event ?hg (N := 4) ?hd (cs := #[.bool b, .slice A1 ss.length c1, .slice A2 dd.length c2]) (t := 46) ?hr ?_; (case hd => rfl); (case hg => rfl); (case hr => first | (go_simp; done) | (go_simp; rfl)); intro gs es ws ks bs) | ((with_reducible refine gate_dst (N := 5) rfl ?_); refine box_event ?hg (N := 5) ?hd (cs := #[.int .i64 op, .int .i64 of, .int .i64 dir]) (t := 56) ?hr ?_; (case hd => rfl); (case hg => rfl); (case hr => first | (go_simp; done) | (go_simp; rfl)); intro ge ee we ke be) | ((with_reducible refine gate_dst (N := 6) rfl ?_); refine box_event ?hg (N := 6) ?hd (cs := #[.int .i64 0, .bool false, .slice none 0 0, .slice none 0 0]) (t := 48) ?hr ?_; (case hd => rfl); (case hg => rfl); (case hr => first | (go_simp; done) | (go_simp; rfl)); intro gd ed wd kd_ bd))
  have KL := Aside0.mk (blk_below (blk_below (blk_below kl bs) be) bd)
  have KS := Aside0.mk (blk_below (blk_below ks be) bd)
  have KE := Aside0.mk (blk_below ke bd)
  have KD := Aside0.mk kd_
  have BB := Aside0.mk (below_step (below_step (below_step bl bs) be) bd)
  have GL := Aside0.mk (show w.heap.size ≤ gl by rw [el]; exact Nat.le_refl _)
  have GS := Aside0.mk (show w.heap.size ≤ gs by rw [es]; exact bl.size)
  have GE := Aside0.mk (show w.heap.size ≤ ge by rw [ee]; exact (below_step bl bs).size)
  have GD := Aside0.mk (show w.heap.size ≤ gd by rw [ed]; exact (below_step (below_step bl bs) be).size)
  clear kl ks ke kd_ bl bs be bd el es ee ed
  simp only [Act.put, List.setIfInBounds_toArray, List.set_cons_zero, List.set_cons_succ]
  go_cut [] from 12 to 18 (fun wx => ∃ v1 v2 : Value, DoSt w wx gl gs ge gd [.int .i64 n, .slice A l.length c] [.bool true, v1, v2] [.int .i64 op, .int .i64 of, .int .i64 dir] [.int .i64 0, .bool false, .slice none 0 0, .slice none 0 0] v1 v2 ss dd)
  case first =>
    have e1 : wd.drew.cell? ⟨gs, 1, none⟩ = some (.slice A1 ss.length c1) := (blk_cell (blk_drew KS.out) 1).trans rfl
    have e2 : wd.drew.cell? ⟨gs, 2, none⟩ = some (.slice A2 dd.length c2) := (blk_cell (blk_drew KS.out) 2).trans rfl
    have kx := Aside0.mk (blk_drew KS.out)
    have bx := Aside0.mk (below_drew1 BB.out)
    have by_ := Aside0.mk (below_drew1 (Below.refl wd.heap.size wd))
    go_region_with (first | (go_at_call 94; refine (impl_Section.calls A1 c1 ss ss _ (Kd.C_below HR1.out bx.out) hc1 f1).mono ?_; rintro e w' ⟨v1, rfl, ho1, hb1⟩; obtain ⟨Aa, ca, rfl⟩ := Kd.R_slice ho1; have kx := Aside0.mk (blk_below kx.out hb1); have c0_ : w'.cell? ⟨gs, 0, none⟩ = some (.bool b) := (blk_cell kx.out 0).trans rfl; have c1_ : w'.cell? ⟨gs, 1, none⟩ = some (.slice A1 ss.length c1) := (blk_cell kx.out 1).trans rfl; have c2_ : w'.cell? ⟨gs, 2, none⟩ = some (.slice A2 dd.length c2) := (blk_cell kx.out 2).trans rfl; have z0_ := blk_frozen kx.out 0; have z1_ := blk_frozen kx.out 1; have z2_ := blk_frozen kx.out 2; have HO1 := Aside0.mk (Kd.R_lower ho1 bx.out.size); (try (have HO2 := Aside0.mk (R_up HO2.out hb1))); have bx := Aside0.mk (below_step bx.out hb1); have by_ := Aside0.mk (below_step by_.out hb1); clear hb1 ho1) | (go_at_call 95; refine (slices_Clone_bool_bool.calls A2 c2 dd dd _ (Kd.C_below HR2.out bx.out) hc2 f2).mono ?_; rintro e w' ⟨v2, rfl, ho2, hb2⟩; obtain ⟨Ab, cb, rfl⟩ := Kd.R_slice ho2; have kx := Aside0.mk (blk_below kx.out hb2); have c0_ : w'.cell? ⟨gs, 0, none⟩ = some (.bool b) := (blk_cell kx.out 0).trans rfl; have c1_ : w'.cell? ⟨gs, 1, none⟩ = some (.slice A1 ss.length c1) := (blk_cell kx.out 1).trans rfl; have c2_ : w'.cell? ⟨gs, 2, none⟩ = some (.slice A2 dd.length c2) := (blk_cell kx.out 2).trans rfl; have z0_ := blk_frozen kx.out 0; have z1_ := blk_frozen kx.out 1; have z2_ := blk_frozen kx.out 2; have HO2 := Aside0.mk (Kd.R_lower ho2 bx.out.size); (try (have HO1 := Aside0.mk (R_up HO1.out hb2))); have bx := Aside0.mk (below_step bx.out hb2); have by_ := Aside0.mk (below_step by_.out hb2); clear hb2 ho2))
    all_goals (go_wp2_with fail; go_meet)
    all_goals exact ⟨_, _, DoSt.begin (blk_below KL.out by_.out) kx.out (blk_below KE.out by_.out) (blk_below KD.out by_.out) HO1.out HO2.out bx.out GL.out GS.out GE.out GD.out (blk_ne KL.out KS.out (by decide)) (blk_ne KE.out KS.out (by decide)) (blk_ne KD.out KS.out (by decide))⟩
  case rest =>
    obtain ⟨v1, v2, ST⟩ := hcut
    obtain ⟨gr, cr, e1, _, _, _⟩ := Kd.R_form ST.H1 hpos
    obtain ⟨Ad, cd, e2⟩ := Kd.R_slice ST.H2
    subst e1 e2
    have SA := Aside0.mk (show DoSt w wc gl gs ge gd [.int .i64 n, .slice A l.length c] [.bool true, .slice (some ⟨gr, 0, none⟩) ss.length cr, .slice Ad dd.length cd] [.int .i64 op, .int .i64 of, .int .i64 dir] [.int .i64 0, .bool false, .slice none 0 0, .slice none 0 0] (.slice (some ⟨gr, 0, none⟩) ss.length cr) (.slice Ad dd.length cd) ss dd from ST)
    have ce0 : wc.cell? ⟨ge, 0, none⟩ = some (.int .i64 op) := (blk_cell ST.he 0).trans rfl
    have ce1 : wc.cell? ⟨ge, 1, none⟩ = some (.int .i64 of) := (blk_cell ST.he 1).trans rfl
    have ce2 : wc.cell? ⟨ge, 2, none⟩ = some (.int .i64 dir) := (blk_cell ST.he 2).trans rfl
    have cs1 : wc.cell? ⟨gs, 1, none⟩ = some (.slice (some ⟨gr, 0, none⟩) ss.length cr) := (blk_cell ST.hs 1).trans rfl
    have cs2 : wc.cell? ⟨gs, 2, none⟩ = some (.slice Ad dd.length cd) := (blk_cell ST.hs 2).trans rfl
    have cs0 : wc.cell? ⟨gs, 0, none⟩ = some (.bool true) := (blk_cell ST.hs 0).trans rfl
    have cl0 : wc.cell? ⟨gl, 0, none⟩ = some (.int .i64 n) := (blk_cell ST.hl 0).trans rfl
    have cl1 : wc.cell? ⟨gl, 1, none⟩ = some (.slice A l.length c) := (blk_cell ST.hl 1).trans rfl
    clear ST KL KS KE KD BB
    go_upto_block 0 with fail
    go_cut [] from 9 to 115 (fun wx => Aside0 (DoSt w wx gl gs ge gd [.int .i64 n, .slice A l.length c] [.bool true, .slice (some ⟨gr, 0, none⟩) ss.length cr, .slice Ad dd.length cd] [.int .i64 op, .int .i64 of, .int .i64 dir] [.int .i64 0, .bool false, .slice none 0 0, .slice none 0 0] (.slice (some ⟨gr, 0, none⟩) ss.length cr) (.slice Ad dd.length cd) (midSecs l ss op of dir) (midDead dd op of)) ∧ Aside0 (doCode l ss dd op of = 0))
    case first =>
      obtain ⟨hl, hns, hnd, hev⟩ := HN.out
      have hln := lay_n hl
      have HL2 := Aside0.mk hln
      rcases evOk_cases hev with ⟨hop, ho0, ho1, hdir⟩ | ⟨hop, ho0, ho1⟩ | ⟨rfl, ho0, ho1⟩
      · have lr := lay_rd hl of ho0 ho1
        have ho2 := ho1
        rw [← hnd] at ho1
        obtain ⟨gb, cb, e, _, _, _⟩ := Kd.R_form SA.out.H2 (show 0 < dd.length by omega)
        cases e
        obtain ⟨x0, xf⟩ := bool_at SA.out.H2 of ho0 ho1
        obtain ⟨ad, e, y0, y1⟩ := at_T88 HR.out of ho0 (by omega)
        subst e
        have lr0 : (rd_T88 l of).f0 < (ss.length : Int) := by omega
        have lr1 : (rd_T88 l of).f1 < (ss.length : Int) := by omega
        have LR0 := Aside0.mk lr0
        have LR1 := Aside0.mk lr1
        clear lr lr0 lr1 hl hns hnd hev hln
        have Y0 := Aside0.mk y0
        have Y1 := Aside0.mk y1
        clear y0 y1
        rcases Bool.eq_false_or_eq_true (rdOf false dd of) with hdo | hdo
        · rw [hdo] at x0
          have HDO := Aside0.mk hdo
          clear hdo
          have hc2 : doCode l ss dd op of = 2 := by unfold doCode; rw [if_pos hop, if_pos HDO.out]
          have HC2 := Aside0.mk hc2
          clear hc2
          have kd0 := (blk_cell SA.out.hd 0).trans (show _ = some (Value.int .i64 0) from rfl)
          have kd1 := (blk_cell SA.out.hd 1).trans (show _ = some (Value.bool false) from rfl)
          have kd2 := (blk_cell SA.out.hd 2).trans (show _ = some (Value.slice none 0 0) from rfl)
          have kd3 := (blk_cell SA.out.hd 3).trans (show _ = some (Value.slice none 0 0) from rfl)
          have kz0 := blk_frozen SA.out.hd 0
          have kz1 := blk_frozen SA.out.hd 1
          have kz2 := blk_frozen SA.out.hd 2
          have kz3 := blk_frozen SA.out.hd 3
          rcases hop with rfl | rfl
          all_goals
            go_wp2_with fail
            have SF := SA.out.fill (y0 := .int .i64 2) (y1 := .bool true) (y2 := (.slice (some ⟨gr, 0, none⟩) ss.length cr)) (y3 := (.slice (some ⟨gb, 0, none⟩) dd.length cd))
            refine bodyPost_ret (results_cell_row rfl _ _ gd 48 _ (0, 0) _ rfl SF.hd Try.underlying48 rfl (by kernel_rfl)) rfl ⟨_, _, by rw [HC2.out], ?_, ?_, SF.hB⟩
            · unfold doSecs; rw [HC2.out]; exact SF.H1
            · unfold doDead; rw [HC2.out]; exact SF.H2
        · rw [hdo] at x0
          have HDO := Aside0.mk hdo
          clear hdo
          have y0 := pw_cell_below SA.out.hB Y0.out
          have y1 := pw_cell_below SA.out.hB Y1.out
          rcases hdir with rfl | rfl
          · rcases hop with rfl | rfl
            · go_upto_region 12 with (first | ((with_reducible refine gate_dst (N := 9) rfl ?_); refine box_event ?hg (N := 9) ?hd (cs := #[.int .i64 0, .int .i64 0]) (t := 88) ?hr ?_; (case hd => rfl); (case hg => rfl); (case hr => first | (go_simp; done) | (go_simp; rfl)); intro gc ec wb kc bc; have KC := Aside0.mk kc; have EC := Aside0.mk ec; have BC := Aside0.mk bc; have zc0 := blk_frozen kc 0; have zc1 := blk_frozen kc 1; have kc0 := (blk_cell kc 0).trans (show _ = some (Value.int .i64 0) from rfl); have kc1 := (blk_cell kc 1).trans (show _ = some (Value.int .i64 0) from rfl); have e0 := pw_cell_below bc ce0; have e1 := pw_cell_below bc ce1; have e2 := pw_cell_below bc ce2; have ss1 := pw_cell_below bc cs1; have ss2 := pw_cell_below bc cs2; clear kc ec bc))
              have KX := Aside0.mk (blk_put (blk_put KC.out 0 (.int .i64 (rd_T88 l of).f0) rfl) 1 (.int .i64 (rd_T88 l of).f1) rfl)
              have BX := Aside0.mk (below_set (j := 1) (v := (.int .i64 (rd_T88 l of).f1)) (below_set (j := 0) (v := (.int .i64 (rd_T88 l of).f0)) BC.out (Nat.le_of_eq EC.out.symm)) (Nat.le_of_eq EC.out.symm))
              have S1 := Aside0.mk (SA.out.up BX.out)
              clear SA ce0 ce1 ce2 cs0 cs1 cs2 cl0 cl1 x0 xf KC BC BX zc0 zc1 kc0 kc1 e0 e1 e2 ss1 ss2 y0 y1 EC
              generalize ((wb.setCell ⟨gc, 0, none⟩ (.int .i64 (rd_T88 l of).f0)).setCell ⟨gc, 1, none⟩ (.int .i64 (rd_T88 l of).f1)) = w1 at S1 KX ⊢
              have kge0 : w1.cell? ⟨ge, 0, none⟩ = some (.int .i64 1) := (blk_cell S1.out.he 0).trans rfl
              have kge1 : w1.cell? ⟨ge, 1, none⟩ = some (.int .i64 of) := (blk_cell S1.out.he 1).trans rfl
              have kge2 : w1.cell? ⟨ge, 2, none⟩ = some (.int .i64 1) := (blk_cell S1.out.he 2).trans rfl
              have kgs0 : w1.cell? ⟨gs, 0, none⟩ = some (.bool true) := (blk_cell S1.out.hs 0).trans rfl
              have kgs1 : w1.cell? ⟨gs, 1, none⟩ = some (.slice (some ⟨gr, 0, none⟩) ss.length cr) := (blk_cell S1.out.hs 1).trans rfl
              have kgs2 : w1.cell? ⟨gs, 2, none⟩ = some (.slice (some ⟨gb, 0, none⟩) dd.length cd) := (blk_cell S1.out.hs 2).trans rfl
              have kgl0 : w1.cell? ⟨gl, 0, none⟩ = some (.int .i64 n) := (blk_cell S1.out.hl 0).trans rfl
              have kgl1 : w1.cell? ⟨gl, 1, none⟩ = some (.slice (some ad) l.length c) := (blk_cell S1.out.hl 1).trans rfl
              have kc0 : w1.cell? ⟨gc, 0, none⟩ = some (.int .i64 (rd_T88 l of).f0) := (blk_cell KX.out 0).trans rfl
              have kc1 : w1.cell? ⟨gc, 1, none⟩ = some (.int .i64 (rd_T88 l of).f1) := (blk_cell KX.out 1).trans rfl
              go_upto_region 14 with (go_at_call 130; refine (cnt_any _ _ true gs gr ss.length cr _ _ _ _ _ LR0.out S1.out.hs S1.out.H1).mono ?_; rintro e w2 ⟨rfl, hR, hg⟩; have S2 := Aside0.mk (S1.out.sec hR hg); have KY := Aside0.mk (blk_grown KX.out hg (Kd.R_ne S1.out.H1 KX.out (by decide))); clear hR hg)
              clear kge0 kge1 kge2 kgs0 kgs1 kgs2 kgl0 kgl1
              clear kc0 kc1 S1 KX
              have kge0 : w2.cell? ⟨ge, 0, none⟩ = some (.int .i64 1) := (blk_cell S2.out.he 0).trans rfl
              have kge1 : w2.cell? ⟨ge, 1, none⟩ = some (.int .i64 of) := (blk_cell S2.out.he 1).trans rfl
              have kge2 : w2.cell? ⟨ge, 2, none⟩ = some (.int .i64 1) := (blk_cell S2.out.he 2).trans rfl
              have kgs0 : w2.cell? ⟨gs, 0, none⟩ = some (.bool true) := (blk_cell S2.out.hs 0).trans rfl
              have kgs1 : w2.cell? ⟨gs, 1, none⟩ = some (.slice (some ⟨gr, 0, none⟩) ss.length cr) := (blk_cell S2.out.hs 1).trans rfl
              have kgs2 : w2.cell? ⟨gs, 2, none⟩ = some (.slice (some ⟨gb, 0, none⟩) dd.length cd) := (blk_cell S2.out.hs 2).trans rfl
              have kgl0 : w2.cell? ⟨gl, 0, none⟩ = some (.int .i64 n) := (blk_cell S2.out.hl 0).trans rfl
              have kgl1 : w2.cell? ⟨gl, 1, none⟩ = some (.slice (some ad) l.length c) := (blk_cell S2.out.hl 1).trans rfl
              have kc1 : w2.cell? ⟨gc, 1, none⟩ = some (.int .i64 (rd_T88 l of).f1) := (blk_cell KY.out 1).trans rfl
              go_wp2_with (go_at_call 130; refine (cnt_any _ _ true gs gr ss.length cr _ _ _ _ _ LR1.out S2.out.hs S2.out.H1).mono ?_; rintro e w3 ⟨rfl, hR, hg⟩; have S3 := Aside0.mk (S2.out.sec hR hg); clear hR hg)
              go_meet
              case rel => exact ⟨⟨S3.out⟩, ⟨by unfold doCode; rw [if_pos (by decide), HDO.out]; rfl⟩⟩
            · go_upto_region 12 with (first | ((with_reducible refine gate_dst (N := 9) rfl ?_); refine box_event ?hg (N := 9) ?hd (cs := #[.int .i64 0, .int .i64 0]) (t := 88) ?hr ?_; (case hd => rfl); (case hg => rfl); (case hr => first | (go_simp; done) | (go_simp; rfl)); intro gc ec wb kc bc; have KC := Aside0.mk kc; have EC := Aside0.mk ec; have BC := Aside0.mk bc; have zc0 := blk_frozen kc 0; have zc1 := blk_frozen kc 1; have kc0 := (blk_cell kc 0).trans (show _ = some (Value.int .i64 0) from rfl); have kc1 := (blk_cell kc 1).trans (show _ = some (Value.int .i64 0) from rfl); have e0 := pw_cell_below bc ce0; have e1 := pw_cell_below bc ce1; have e2 := pw_cell_below bc ce2; have ss1 := pw_cell_below bc cs1; have ss2 := pw_cell_below bc cs2; clear kc ec bc))
              have KX := Aside0.mk (blk_put (blk_put KC.out 0 (.int .i64 (rd_T88 l of).f0) rfl) 1 (.int .i64 (rd_T88 l of).f1) rfl)
              have BX := Aside0.mk (below_set (j := 1) (v := (.int .i64 (rd_T88 l of).f1)) (below_set (j := 0) (v := (.int .i64 (rd_T88 l of).f0)) BC.out (Nat.le_of_eq EC.out.symm)) (Nat.le_of_eq EC.out.symm))
              have S1 := Aside0.mk (SA.out.up BX.out)
              clear SA ce0 ce1 ce2 cs0 cs1 cs2 cl0 cl1 x0 xf KC BC BX zc0 zc1 kc0 kc1 e0 e1 e2 ss1 ss2 y0 y1 EC
              generalize ((wb.setCell ⟨gc, 0, none⟩ (.int .i64 (rd_T88 l of).f0)).setCell ⟨gc, 1, none⟩ (.int .i64 (rd_T88 l of).f1)) = w1 at S1 KX ⊢
              have kge0 : w1.cell? ⟨ge, 0, none⟩ = some (.int .i64 2) := (blk_cell S1.out.he 0).trans rfl
              have kge1 : w1.cell? ⟨ge, 1, none⟩ = some (.int .i64 of) := (blk_cell S1.out.he 1).trans rfl
              have kge2 : w1.cell? ⟨ge, 2, none⟩ = some (.int .i64 1) := (blk_cell S1.out.he 2).trans rfl
              have kgs0 : w1.cell? ⟨gs, 0, none⟩ = some (.bool true) := (blk_cell S1.out.hs 0).trans rfl
              have kgs1 : w1.cell? ⟨gs, 1, none⟩ = some (.slice (some ⟨gr, 0, none⟩) ss.length cr) := (blk_cell S1.out.hs 1).trans rfl
              have kgs2 : w1.cell? ⟨gs, 2, none⟩ = some (.slice (some ⟨gb, 0, none⟩) dd.length cd) := (blk_cell S1.out.hs 2).trans rfl
              have kgl0 : w1.cell? ⟨gl, 0, none⟩ = some (.int .i64 n) := (blk_cell S1.out.hl 0).trans rfl
              have kgl1 : w1.cell? ⟨gl, 1, none⟩ = some (.slice (some ad) l.length c) := (blk_cell S1.out.hl 1).trans rfl
              have kc0 : w1.cell? ⟨gc, 0, none⟩ = some (.int .i64 (rd_T88 l of).f0) := (blk_cell KX.out 0).trans rfl
              have kc1 : w1.cell? ⟨gc, 1, none⟩ = some (.int .i64 (rd_T88 l of).f1) := (blk_cell KX.out 1).trans rfl
              go_wp2_with (go_at_call 130; refine (cnt_any _ _ true gs gr ss.length cr _ _ _ _ _ LR1.out S1.out.hs S1.out.H1).mono ?_; rintro e w3 ⟨rfl, hR, hg⟩; have S3 := Aside0.mk (S1.out.sec hR hg); clear hR hg)
              go_meet
              case rel => exact ⟨⟨S3.out⟩, ⟨by unfold doCode; rw [if_pos (by decide), HDO.out]; rfl⟩⟩
          · rcases hop with rfl | rfl
            · go_upto_region 12 with (first | ((with_reducible refine gate_dst (N := 9) rfl ?_); refine box_event ?hg (N := 9) ?hd (cs := #[.int .i64 0, .int .i64 0]) (t := 88) ?hr ?_; (case hd => rfl); (case hg => rfl); (case hr => first | (go_simp; done) | (go_simp; rfl)); intro gc ec wb kc bc; have KC := Aside0.mk kc; have EC := Aside0.mk ec; have BC := Aside0.mk bc; have zc0 := blk_frozen kc 0; have zc1 := blk_frozen kc 1; have kc0 := (blk_cell kc 0).trans (show _ = some (Value.int .i64 0) from rfl); have kc1 := (blk_cell kc 1).trans (show _ = some (Value.int .i64 0) from rfl); have e0 := pw_cell_below bc ce0; have e1 := pw_cell_below bc ce1; have e2 := pw_cell_below bc ce2; have ss1 := pw_cell_below bc cs1; have ss2 := pw_cell_below bc cs2; clear kc ec bc))
              have KX := Aside0.mk (blk_put (blk_put (blk_put (blk_put KC.out 0 (.int .i64 (rd_T88 l of).f0) rfl) 1 (.int .i64 (rd_T88 l of).f1) rfl) 0 (.int .i64 (rd_T88 l of).f1) rfl) 1 (.int .i64 (rd_T88 l of).f0) rfl)
              have BX := Aside0.mk (below_set (j := 1) (v := (.int .i64 (rd_T88 l of).f0)) (below_set (j := 0) (v := (.int .i64 (rd_T88 l of).f1)) (below_set (j := 1) (v := (.int .i64 (rd_T88 l of).f1)) (below_set (j := 0) (v := (.int .i64 (rd_T88 l of).f0)) BC.out (Nat.le_of_eq EC.out.symm)) (Nat.le_of_eq EC.out.symm)) (Nat.le_of_eq EC.out.symm)) (Nat.le_of_eq EC.out.symm))
              have S1 := Aside0.mk (SA.out.up BX.out)
              clear SA ce0 ce1 ce2 cs0 cs1 cs2 cl0 cl1 x0 xf KC BC BX zc0 zc1 kc0 kc1 e0 e1 e2 ss1 ss2 y0 y1 EC
              generalize ((((wb.setCell ⟨gc, 0, none⟩ (.int .i64 (rd_T88 l of).f0)).setCell ⟨gc, 1, none⟩ (.int .i64 (rd_T88 l of).f1)).setCell ⟨gc, 0, none⟩ (.int .i64 (rd_T88 l of).f1)).setCell ⟨gc, 1, none⟩ (.int .i64 (rd_T88 l of).f0)) = w1 at S1 KX ⊢
              have kge0 : w1.cell? ⟨ge, 0, none⟩ = some (.int .i64 1) := (blk_cell S1.out.he 0).trans rfl
              have kge1 : w1.cell? ⟨ge, 1, none⟩ = some (.int .i64 of) := (blk_cell S1.out.he 1).trans rfl
              have kge2 : w1.cell? ⟨ge, 2, none⟩ = some (.int .i64 (-1)) := (blk_cell S1.out.he 2).trans rfl
              have kgs0 : w1.cell? ⟨gs, 0, none⟩ = some (.bool true) := (blk_cell S1.out.hs 0).trans rfl
              have kgs1 : w1.cell? ⟨gs, 1, none⟩ = some (.slice (some ⟨gr, 0, none⟩) ss.length cr) := (blk_cell S1.out.hs 1).trans rfl
              have kgs2 : w1.cell? ⟨gs, 2, none⟩ = some (.slice (some ⟨gb, 0, none⟩) dd.length cd) := (blk_cell S1.out.hs 2).trans rfl
              have kgl0 : w1.cell? ⟨gl, 0, none⟩ = some (.int .i64 n) := (blk_cell S1.out.hl 0).trans rfl
              have kgl1 : w1.cell? ⟨gl, 1, none⟩ = some (.slice (some ad) l.length c) := (blk_cell S1.out.hl 1).trans rfl
              have kc0 : w1.cell? ⟨gc, 0, none⟩ = some (.int .i64 (rd_T88 l of).f1) := (blk_cell KX.out 0).trans rfl
              have kc1 : w1.cell? ⟨gc, 1, none⟩ = some (.int .i64 (rd_T88 l of).f0) := (blk_cell KX.out 1).trans rfl
              go_upto_region 14 with (go_at_call 130; refine (cnt_any _ _ true gs gr ss.length cr _ _ _ _ _ LR1.out S1.out.hs S1.out.H1).mono ?_; rintro e w2 ⟨rfl, hR, hg⟩; have S2 := Aside0.mk (S1.out.sec hR hg); have KY := Aside0.mk (blk_grown KX.out hg (Kd.R_ne S1.out.H1 KX.out (by decide))); clear hR hg)
              clear kge0 kge1 kge2 kgs0 kgs1 kgs2 kgl0 kgl1
              clear kc0 kc1 S1 KX
              have kge0 : w2.cell? ⟨ge, 0, none⟩ = some (.int .i64 1) := (blk_cell S2.out.he 0).trans rfl
              have kge1 : w2.cell? ⟨ge, 1, none⟩ = some (.int .i64 of) := (blk_cell S2.out.he 1).trans rfl
              have kge2 : w2.cell? ⟨ge, 2, none⟩ = some (.int .i64 (-1)) := (blk_cell S2.out.he 2).trans rfl
              have kgs0 : w2.cell? ⟨gs, 0, none⟩ = some (.bool true) := (blk_cell S2.out.hs 0).trans rfl
              have kgs1 : w2.cell? ⟨gs, 1, none⟩ = some (.slice (some ⟨gr, 0, none⟩) ss.length cr) := (blk_cell S2.out.hs 1).trans rfl
              have kgs2 : w2.cell? ⟨gs, 2, none⟩ = some (.slice (some ⟨gb, 0, none⟩) dd.length cd) := (blk_cell S2.out.hs 2).trans rfl
              have kgl0 : w2.cell? ⟨gl, 0, none⟩ = some (.int .i64 n) := (blk_cell S2.out.hl 0).trans rfl
              have kgl1 : w2.cell? ⟨gl, 1, none⟩ = some (.slice (some ad) l.length c) := (blk_cell S2.out.hl 1).trans rfl
              have kc1 : w2.cell? ⟨gc, 1, none⟩ = some (.int .i64 (rd_T88 l of).f0) := (blk_cell KY.out 1).trans rfl
              go_wp2_with (go_at_call 130; refine (cnt_any _ _ true gs gr ss.length cr _ _ _ _ _ LR0.out S2.out.hs S2.out.H1).mono ?_; rintro e w3 ⟨rfl, hR, hg⟩; have S3 := Aside0.mk (S2.out.sec hR hg); clear hR hg)
              go_meet
              case rel => exact ⟨⟨S3.out⟩, ⟨by unfold doCode; rw [if_pos (by decide), HDO.out]; rfl⟩⟩
            · go_upto_region 12 with (first | ((with_reducible refine gate_dst (N := 9) rfl ?_); refine box_event ?hg (N := 9) ?hd (cs := #[.int .i64 0, .int .i64 0]) (t := 88) ?hr ?_; (case hd => rfl); (case hg => rfl); (case hr => first | (go_simp; done) | (go_simp; rfl)); intro gc ec wb kc bc; have KC := Aside0.mk kc; have EC := Aside0.mk ec; have BC := Aside0.mk bc; have zc0 := blk_frozen kc 0; have zc1 := blk_frozen kc 1; have kc0 := (blk_cell kc 0).trans (show _ = some (Value.int .i64 0) from rfl); have kc1 := (blk_cell kc 1).trans (show _ = some (Value.int .i64 0) from rfl); have e0 := pw_cell_below bc ce0; have e1 := pw_cell_below bc ce1; have e2 := pw_cell_below bc ce2; have ss1 := pw_cell_below bc cs1; have ss2 := pw_cell_below bc cs2; clear kc ec bc))
              have KX := Aside0.mk (blk_put (blk_put (blk_put (blk_put KC.out 0 (.int .i64 (rd_T88 l of).f0) rfl) 1 (.int .i64 (rd_T88 l of).f1) rfl) 0 (.int .i64 (rd_T88 l of).f1) rfl) 1 (.int .i64 (rd_T88 l of).f0) rfl)
              have BX := Aside0.mk (below_set (j := 1) (v := (.int .i64 (rd_T88 l of).f0)) (below_set (j := 0) (v := (.int .i64 (rd_T88 l of).f1)) (below_set (j := 1) (v := (.int .i64 (rd_T88 l of).f1)) (below_set (j := 0) (v := (.int .i64 (rd_T88 l of).f0)) BC.out (Nat.le_of_eq EC.out.symm)) (Nat.le_of_eq EC.out.symm)) (Nat.le_of_eq EC.out.symm)) (Nat.le_of_eq EC.out.symm))
              have S1 := Aside0.mk (SA.out.up BX.out)
              clear SA ce0 ce1 ce2 cs0 cs1 cs2 cl0 cl1 x0 xf KC BC BX zc0 zc1 kc0 kc1 e0 e1 e2 ss1 ss2 y0 y1 EC
              generalize ((((wb.setCell ⟨gc, 0, none⟩ (.int .i64 (rd_T88 l of).f0)).setCell ⟨gc, 1, none⟩ (.int .i64 (rd_T88 l of).f1)).setCell ⟨gc, 0, none⟩ (.int .i64 (rd_T88 l of).f1)).setCell ⟨gc, 1, none⟩ (.int .i64 (rd_T88 l of).f0)) = w1 at S1 KX ⊢
              have kge0 : w1.cell? ⟨ge, 0, none⟩ = some (.int .i64 2) := (blk_cell S1.out.he 0).trans rfl
              have kge1 : w1.cell? ⟨ge, 1, none⟩ = some (.int .i64 of) := (blk_cell S1.out.he 1).trans rfl
              have kge2 : w1.cell? ⟨ge, 2, none⟩ = some (.int .i64 (-1)) := (blk_cell S1.out.he 2).trans rfl
              have kgs0 : w1.cell? ⟨gs, 0, none⟩ = some (.bool true) := (blk_cell S1.out.hs 0).trans rfl
              have kgs1 : w1.cell? ⟨gs, 1, none⟩ = some (.slice (some ⟨gr, 0, none⟩) ss.length cr) := (blk_cell S1.out.hs 1).trans rfl
              have kgs2 : w1.cell? ⟨gs, 2, none⟩ = some (.slice (some ⟨gb, 0, none⟩) dd.length cd) := (blk_cell S1.out.hs 2).trans rfl
              have kgl0 : w1.cell? ⟨gl, 0, none⟩ = some (.int .i64 n) := (blk_cell S1.out.hl 0).trans rfl
              have kgl1 : w1.cell? ⟨gl, 1, none⟩ = some (.slice (some ad) l.length c) := (blk_cell S1.out.hl 1).trans rfl
              have kc0 : w1.cell? ⟨gc, 0, none⟩ = some (.int .i64 (rd_T88 l of).f1) := (blk_cell KX.out 0).trans rfl
              have kc1 : w1.cell? ⟨gc, 1, none⟩ = some (.int .i64 (rd_T88 l of).f0) := (blk_cell KX.out 1).trans rfl
              go_wp2_with (go_at_call 130; refine (cnt_any _ _ true gs gr ss.length cr _ _ _ _ _ LR0.out S1.out.hs S1.out.H1).mono ?_; rintro e w3 ⟨rfl, hR, hg⟩; have S3 := Aside0.mk (S1.out.sec hR hg); clear hR hg)
              go_meet
              case rel => exact ⟨⟨S3.out⟩, ⟨by unfold doCode; rw [if_pos (by decide), HDO.out]; rfl⟩⟩
      · have lr := lay_rd hl of ho0 ho1
        have ho2 := ho1
        rw [← hnd] at ho1
        obtain ⟨gb, cb, e, _, _, _⟩ := Kd.R_form SA.out.H2 (show 0 < dd.length by omega)
        cases e
        obtain ⟨x0, xf⟩ := bool_at SA.out.H2 of ho0 ho1
        obtain ⟨ad, e, y0, y1⟩ := at_T88 HR.out of ho0 (by omega)
        subst e
        have lr0 : (rd_T88 l of).f0 < (ss.length : Int) := by omega
        have lr1 : (rd_T88 l of).f1 < (ss.length : Int) := by omega
        have LR0 := Aside0.mk lr0
        have LR1 := Aside0.mk lr1
        clear lr lr0 lr1 hl hns hnd hev hln
        have Y0 := Aside0.mk y0
        have Y1 := Aside0.mk y1
        clear y0 y1
        rcases hop with rfl | rfl
        · go_upto_region 17 with fail
          have S1 := Aside0.mk (SA.out.dead of true)
          clear SA ce0 ce1 ce2 cs0 cs1 cs2 cl0 cl1 x0 xf
          generalize wc.setCell ⟨gb, of.toNat, none⟩ (.bool true) = w1 at S1 ⊢
          have kge0 : w1.cell? ⟨ge, 0, none⟩ = some (.int .i64 3) := (blk_cell S1.out.he 0).trans rfl
          have kge1 : w1.cell? ⟨ge, 1, none⟩ = some (.int .i64 of) := (blk_cell S1.out.he 1).trans rfl
          have kge2 : w1.cell? ⟨ge, 2, none⟩ = some (.int .i64 dir) := (blk_cell S1.out.he 2).trans rfl
          have kgs0 : w1.cell? ⟨gs, 0, none⟩ = some (.bool true) := (blk_cell S1.out.hs 0).trans rfl
          have kgs1 : w1.cell? ⟨gs, 1, none⟩ = some (.slice (some ⟨gr, 0, none⟩) ss.length cr) := (blk_cell S1.out.hs 1).trans rfl
          have kgs2 : w1.cell? ⟨gs, 2, none⟩ = some (.slice (some ⟨gb, 0, none⟩) dd.length cd) := (blk_cell S1.out.hs 2).trans rfl
          have kgl0 : w1.cell? ⟨gl, 0, none⟩ = some (.int .i64 n) := (blk_cell S1.out.hl 0).trans rfl
          have kgl1 : w1.cell? ⟨gl, 1, none⟩ = some (.slice (some ad) l.length c) := (blk_cell S1.out.hl 1).trans rfl
          have y0 := pw_cell_below S1.out.hB Y0.out
          have y1 := pw_cell_below S1.out.hB Y1.out
          go_upto_region 18 with (go_at_call 131; refine (lose_any _ true gs gr ss.length cr _ _ _ _ _ LR0.out S1.out.hs S1.out.H1).mono ?_; rintro e w2 ⟨rfl, hR, hg⟩; have S2 := Aside0.mk (S1.out.sec hR hg); clear hR hg)
          clear kge0 kge1 kge2 kgs0 kgs1 kgs2 kgl0 kgl1
          clear y0 y1 S1
          have kge0 : w2.cell? ⟨ge, 0, none⟩ = some (.int .i64 3) := (blk_cell S2.out.he 0).trans rfl
          have kge1 : w2.cell? ⟨ge, 1, none⟩ = some (.int .i64 of) := (blk_cell S2.out.he 1).trans rfl
          have kge2 : w2.cell? ⟨ge, 2, none⟩ = some (.int .i64 dir) := (blk_cell S2.out.he 2).trans rfl
          have kgs0 : w2.cell? ⟨gs, 0, none⟩ = some (.bool true) := (blk_cell S2.out.hs 0).trans rfl
          have kgs1 : w2.cell? ⟨gs, 1, none⟩ = some (.slice (some ⟨gr, 0, none⟩) ss.length cr) := (blk_cell S2.out.hs 1).trans rfl
          have kgs2 : w2.cell? ⟨gs, 2, none⟩ = some (.slice (some ⟨gb, 0, none⟩) dd.length cd) := (blk_cell S2.out.hs 2).trans rfl
          have kgl0 : w2.cell? ⟨gl, 0, none⟩ = some (.int .i64 n) := (blk_cell S2.out.hl 0).trans rfl
          have kgl1 : w2.cell? ⟨gl, 1, none⟩ = some (.slice (some ad) l.length c) := (blk_cell S2.out.hl 1).trans rfl
          have y0 := pw_cell_below S2.out.hB Y0.out
          have y1 := pw_cell_below S2.out.hB Y1.out
          go_wp2_with (go_at_call 131; refine (lose_any _ true gs gr ss.length cr _ _ _ _ _ LR1.out S2.out.hs S2.out.H1).mono ?_; rintro e w3 ⟨rfl, hR, hg⟩; have S3 := Aside0.mk (S2.out.sec hR hg); clear hR hg)
          go_meet
          case rel => exact ⟨⟨S3.out⟩, ⟨rfl⟩⟩
        · go_wp2_with fail
          go_meet
          case rel => exact ⟨⟨SA.out.dead of false⟩, ⟨rfl⟩⟩
      · rw [← hns] at ho1
        obtain ⟨z0, z1, z2, z3, z4, zf0, zf1, zf2, zf3, zf4⟩ := sec_at SA.out.H1 of ho0 ho1
        have hll : l.length ≤ 1048576 := by omega
        have HLL := Aside0.mk hll
        have HND := Aside0.mk hnd
        have HO0 := Aside0.mk ho0
        have HO1 := Aside0.mk ho1
        clear hl hns hnd hev hln hll z0 z1 z2 z3 z4 zf0 zf1 zf2 zf3 zf4
        rcases Bool.eq_false_or_eq_true (deadAt l dd of) with hdo | hdo
        · have HDO := Aside0.mk hdo
          clear hdo
          have HC2 := Aside0.mk (show doCode l ss dd 5 of = 3 by unfold doCode; rw [if_neg (by decide), if_pos rfl, if_pos HDO.out])
          go_upto_region 23 with (go_at_call 98; refine (dead_at of HDO.out (Kd.C_below HR.out SA.out.hB) hc (Kd.R_reads' SA.out.H1).2.2 (Kd.R_reads' SA.out.H1).2.1 (Kd.R_reads' SA.out.H2).2.2 (Kd.R_reads' SA.out.H2).2.1 HLL.out HND.out).mono ?_; rintro e w1 ⟨rfl, hb⟩; have S1 := Aside0.mk (SA.out.up hb); clear hb)
          clear ce0 ce1 ce2 cs0 cs1 cs2 cl0 cl1 SA
          have kge0 : w1.cell? ⟨ge, 0, none⟩ = some (.int .i64 5) := (blk_cell S1.out.he 0).trans rfl
          have kge1 : w1.cell? ⟨ge, 1, none⟩ = some (.int .i64 of) := (blk_cell S1.out.he 1).trans rfl
          have kge2 : w1.cell? ⟨ge, 2, none⟩ = some (.int .i64 dir) := (blk_cell S1.out.he 2).trans rfl
          have kgs0 : w1.cell? ⟨gs, 0, none⟩ = some (.bool true) := (blk_cell S1.out.hs 0).trans rfl
          have kgs1 : w1.cell? ⟨gs, 1, none⟩ = some (.slice (some ⟨gr, 0, none⟩) ss.length cr) := (blk_cell S1.out.hs 1).trans rfl
          have kgs2 : w1.cell? ⟨gs, 2, none⟩ = some (.slice Ad dd.length cd) := (blk_cell S1.out.hs 2).trans rfl
          have kgl0 : w1.cell? ⟨gl, 0, none⟩ = some (.int .i64 n) := (blk_cell S1.out.hl 0).trans rfl
          have kgl1 : w1.cell? ⟨gl, 1, none⟩ = some (.slice A l.length c) := (blk_cell S1.out.hl 1).trans rfl
          have kd0 : w1.cell? ⟨gd, 0, none⟩ = some (.int .i64 0) := (blk_cell S1.out.hd 0).trans rfl
          have kz0 := blk_frozen S1.out.hd 0
          have kd1 : w1.cell? ⟨gd, 1, none⟩ = some (.bool false) := (blk_cell S1.out.hd 1).trans rfl
          have kz1 := blk_frozen S1.out.hd 1
          have kd2 : w1.cell? ⟨gd, 2, none⟩ = some (.slice none 0 0) := (blk_cell S1.out.hd 2).trans rfl
          have kz2 := blk_frozen S1.out.hd 2
          have kd3 : w1.cell? ⟨gd, 3, none⟩ = some (.slice none 0 0) := (blk_cell S1.out.hd 3).trans rfl
          have kz3 := blk_frozen S1.out.hd 3
          go_wp2_with fail
          have SF := S1.out.fill (y0 := .int .i64 3) (y1 := .bool true) (y2 := (.slice (some ⟨gr, 0, none⟩) ss.length cr)) (y3 := (.slice Ad dd.length cd))
          refine bodyPost_ret (results_cell_row rfl _ _ gd 48 _ (0, 0) _ rfl SF.hd Try.underlying48 rfl (by kernel_rfl)) rfl ⟨_, _, by rw [HC2.out], ?_, ?_, SF.hB⟩
          · unfold doSecs; rw [HC2.out]; exact SF.H1
          · unfold doDead; rw [HC2.out]; exact SF.H2
        · have HDO := Aside0.mk hdo
          clear hdo
          go_upto_region 24 with (go_at_call 98; refine (dead_at of HDO.out (Kd.C_below HR.out SA.out.hB) hc (Kd.R_reads' SA.out.H1).2.2 (Kd.R_reads' SA.out.H1).2.1 (Kd.R_reads' SA.out.H2).2.2 (Kd.R_reads' SA.out.H2).2.1 HLL.out HND.out).mono ?_; rintro e w1 ⟨rfl, hb⟩; have S1 := Aside0.mk (SA.out.up hb); clear hb)
          clear ce0 ce1 ce2 cs0 cs1 cs2 cl0 cl1 SA
          have kge0 : w1.cell? ⟨ge, 0, none⟩ = some (.int .i64 5) := (blk_cell S1.out.he 0).trans rfl
          have kge1 : w1.cell? ⟨ge, 1, none⟩ = some (.int .i64 of) := (blk_cell S1.out.he 1).trans rfl
          have kge2 : w1.cell? ⟨ge, 2, none⟩ = some (.int .i64 dir) := (blk_cell S1.out.he 2).trans rfl
          have kgs0 : w1.cell? ⟨gs, 0, none⟩ = some (.bool true) := (blk_cell S1.out.hs 0).trans rfl
          have kgs1 : w1.cell? ⟨gs, 1, none⟩ = some (.slice (some ⟨gr, 0, none⟩) ss.length cr) := (blk_cell S1.out.hs 1).trans rfl
          have kgs2 : w1.cell? ⟨gs, 2, none⟩ = some (.slice Ad dd.length cd) := (blk_cell S1.out.hs 2).trans rfl
          have kgl0 : w1.cell? ⟨gl, 0, none⟩ = some (.int .i64 n) := (blk_cell S1.out.hl 0).trans rfl
          have kgl1 : w1.cell? ⟨gl, 1, none⟩ = some (.slice A l.length c) := (blk_cell S1.out.hl 1).trans rfl
          have ho0 := HO0.out
          have ho1 := HO1.out
          obtain ⟨z0, z1, z2, z3, z4, zf0, zf1, zf2, zf3, zf4⟩ := sec_at S1.out.H1 of ho0 ho1
          by_cases hla : (rd_T50 ss of).f4 = 1
          · have hla1 : ((rd_T50 ss of).f4 == 1) = true := beq_iff_eq.mpr hla
            have HC2 := Aside0.mk (show doCode l ss dd 5 of = 4 by unfold doCode; rw [if_neg (by decide), if_pos rfl, HDO.out, if_neg (by decide), if_pos hla])
            clear hla
            have kd0 : w1.cell? ⟨gd, 0, none⟩ = some (.int .i64 0) := (blk_cell S1.out.hd 0).trans rfl
            have kz0 := blk_frozen S1.out.hd 0
            have kd1 : w1.cell? ⟨gd, 1, none⟩ = some (.bool false) := (blk_cell S1.out.hd 1).trans rfl
            have kz1 := blk_frozen S1.out.hd 1
            have kd2 : w1.cell? ⟨gd, 2, none⟩ = some (.slice none 0 0) := (blk_cell S1.out.hd 2).trans rfl
            have kz2 := blk_frozen S1.out.hd 2
            have kd3 : w1.cell? ⟨gd, 3, none⟩ = some (.slice none 0 0) := (blk_cell S1.out.hd 3).trans rfl
            have kz3 := blk_frozen S1.out.hd 3
            go_wp2_with fail
            have SF := S1.out.fill (y0 := .int .i64 4) (y1 := .bool true) (y2 := (.slice (some ⟨gr, 0, none⟩) ss.length cr)) (y3 := (.slice Ad dd.length cd))
            refine bodyPost_ret (results_cell_row rfl _ _ gd 48 _ (0, 0) _ rfl SF.hd Try.underlying48 rfl (by kernel_rfl)) rfl ⟨_, _, by rw [HC2.out], ?_, ?_, SF.hB⟩
            · unfold doSecs; rw [HC2.out]; exact SF.H1
            · unfold doDead; rw [HC2.out]; exact SF.H2
          · have hla1 : ((rd_T50 ss of).f4 == 1) = false := beq_eq_false_iff_ne.mpr hla
            have HC2 := Aside0.mk (show doCode l ss dd 5 of = 0 by unfold doCode; rw [if_neg (by decide), if_pos rfl, HDO.out, if_neg (by decide), if_neg hla])
            clear hla
            go_wp2_with fail
            go_meet
            case rel =>
              obtain ⟨hR, hg⟩ := ((((SecSt.start S1.out.H1 HO0.out HO1.out).put0 HO0.out HO1.out (u := 0) rfl).put1 HO0.out HO1.out (u := 0) rfl).put2 HO0.out HO1.out (u := false) rfl |>.put3 HO0.out HO1.out (u := true) rfl).put4 HO0.out HO1.out (u := 0) rfl
              exact ⟨⟨S1.out.sec hR hg⟩, HC2⟩
    case rest =>
      obtain ⟨SM, HC0⟩ := hcut
      have HLM := Aside0.mk (midSecs_length l ss op of dir)
      have HLD := Aside0.mk (midDead_length dd op of)
      have HDS := Aside0.mk (show retold l (midDead dd op of) (midSecs l ss op of dir) = doSecs l ss dd op of dir by unfold doSecs; rw [if_pos HC0.out])
      have HDD := Aside0.mk (show midDead dd op of = doDead l ss dd op of by unfold doDead; rw [if_pos HC0.out])
      clear SA ce0 ce1 ce2 cs0 cs1 cs2 cl0 cl1
      generalize midSecs l ss op of dir = ms at SM HLM HDS
      generalize midDead dd op of = md at SM HLD HDS HDD
      have kge0 : wc.cell? ⟨ge, 0, none⟩ = some (.int .i64 op) := (blk_cell SM.out.he 0).trans rfl
      have kge1 : wc.cell? ⟨ge, 1, none⟩ = some (.int .i64 of) := (blk_cell SM.out.he 1).trans rfl
      have kge2 : wc.cell? ⟨ge, 2, none⟩ = some (.int .i64 dir) := (blk_cell SM.out.he 2).trans rfl
      have kgs0 : wc.cell? ⟨gs, 0, none⟩ = some (.bool true) := (blk_cell SM.out.hs 0).trans rfl
      have kgs1 : wc.cell? ⟨gs, 1, none⟩ = some (.slice (some ⟨gr, 0, none⟩) ss.length cr) := (blk_cell SM.out.hs 1).trans rfl
      have kgs2 : wc.cell? ⟨gs, 2, none⟩ = some (.slice Ad dd.length cd) := (blk_cell SM.out.hs 2).trans rfl
      have kgl0 : wc.cell? ⟨gl, 0, none⟩ = some (.int .i64 n) := (blk_cell SM.out.hl 0).trans rfl
      have kgl1 : wc.cell? ⟨gl, 1, none⟩ = some (.slice A l.length c) := (blk_cell SM.out.hl 1).trans rfl
      go_wp2_with fail
      go_loopg [119] ss.length (fun kq v w' => ∃ j : Nat, v = .int .i64 j ∧ Aside0 (j + kq = ss.length) ∧ Aside0 (DoSt w w' gl gs ge gd [.int .i64 n, .slice A l.length c] [.bool true, .slice (some ⟨gr, 0, none⟩) ss.length cr, .slice Ad dd.length cd] [.int .i64 op, .int .i64 of, .int .i64 dir] [.int .i64 0, .bool false, .slice none 0 0, .slice none 0 0] (.slice (some ⟨gr, 0, none⟩) ss.length cr) (.slice Ad dd.length cd) (retoldTo l md ms j) md))
      case atStart => exact ⟨0, rfl, ⟨by omega⟩, ⟨by rw [retoldTo_zero]; exact SM.out⟩⟩
      case round =>
        obtain ⟨j, rfl, HJ, SL⟩ := hrel
        clear kge0 kge1 kge2 kgs0 kgs1 kgs2 kgl0 kgl1
        clear SM
        by_cases hlt : j < ss.length
        · cases gk with
          | zero => exact absurd HJ.out (by omega)
          | succ gk =>
            have hlt' : decide ((j : Int) < (ss.length : Int)) = true := decide_eq_true (by omega)
            have q0 : (0 : Int) ≤ (j : Int) := by omega
            have q1 : (j : Int) < (ss.length : Int) := by omega
            have q2 : ss.length ≤ 60 := by have := lay_n HN.out.1; have := HN.out.2.1; omega
            go_upto_block 2 with fail
            go_cut [11] from 121 to 130 (fun v11 wx => Aside0 (DoSt w wx gl gs ge gd [.int .i64 n, .slice A l.length c] [.bool true, .slice (some ⟨gr, 0, none⟩) ss.length cr, .slice Ad dd.length cd] [.int .i64 op, .int .i64 of, .int .i64 dir] [.int .i64 0, .bool false, .slice none 0 0, .slice none 0 0] (.slice (some ⟨gr, 0, none⟩) ss.length cr) (.slice Ad dd.length cd) (retoldTo l md ms (j + 1)) md))
            case first =>
              have HLL := Aside0.mk (show l.length ≤ 1048576 by have := lay_n HN.out.1; omega)
              have HML := Aside0.mk (show md.length = l.length by rw [HLD.out]; exact HN.out.2.2.1)
              have n1 : gr ≠ gs := fun e => Kd.R_ne SL.out.H1 SL.out.hs (by decide) (by rw [e]; rfl)
              have n2 : gr ≠ gl := fun e => Kd.R_ne SL.out.H1 SL.out.hl (by decide) (by rw [e]; rfl)
              have kgs0 : wr.cell? ⟨gs, 0, none⟩ = some (.bool true) := (blk_cell SL.out.hs 0).trans rfl
              have kgs1 : wr.cell? ⟨gs, 1, none⟩ = some (.slice (some ⟨gr, 0, none⟩) ss.length cr) := (blk_cell SL.out.hs 1).trans rfl
              have kgs2 : wr.cell? ⟨gs, 2, none⟩ = some (.slice Ad dd.length cd) := (blk_cell SL.out.hs 2).trans rfl
              have kgl0 : wr.cell? ⟨gl, 0, none⟩ = some (.int .i64 n) := (blk_cell SL.out.hl 0).trans rfl
              have kgl1 : wr.cell? ⟨gl, 1, none⟩ = some (.slice A l.length c) := (blk_cell SL.out.hl 1).trans rfl
              have SD := Aside0.mk (SL.out.up (below_drew1 (Below.refl _ _)))
              have hln : ss.length = (retoldTo l md ms j).length := by rw [retoldTo_length, HLM.out]
              have HLN := Aside0.mk hln
              have HLM2 := Aside0.mk (show dd.length = md.length from HLD.out.symm)
              clear hln
              go_upto_region 31 with fail
              go_region_held3 (fun w' => w'.cell? ⟨gl, 0, none⟩ = some (.int .i64 n) ∧ w'.cell? ⟨gl, 1, none⟩ = some (.slice A l.length c) ∧ w'.cell? ⟨gs, 0, none⟩ = some (.bool true) ∧ w'.cell? ⟨gs, 1, none⟩ = some (.slice (some ⟨gr, 0, none⟩) ss.length cr) ∧ w'.cell? ⟨gs, 2, none⟩ = some (.slice Ad dd.length cd))
                (first | go_keep | (go_split_ands; (repeat' apply And.intro) <;> (refine pw_cell_below hb ?_; assumption)) | (go_split_ands; (repeat' apply And.intro) <;> (rw [World.cell?_setCell_far _ _ _ _ (by assumption)]; assumption)))
                (first | (go_at_call 97; refine (told_of (j : Int) (Kd.C_below HR.out SD.out.hB) hc SD.out.H1 SD.out.H2 HLN.out HLM2.out HLL.out HML.out q0 q1).mono ?_; rintro e w' ⟨rfl, hb⟩; have S2 := Aside0.mk (SD.out.up hb); obtain ⟨z0, z1, z2, z3, z4, zf0, zf1, zf2, zf3, zf4⟩ := sec_at S2.out.H1 (j : Int) q0 q1; rw [Int.toNat_natCast] at z0 zf0; clear z1 z2 z3 z4 zf1 zf2 zf3 zf4))
              all_goals (go_wp2_with fail; go_meet)
              obtain ⟨hR, hg⟩ := (SecSt.start S2.out.H1 q0 q1).put0 q0 q1 (u := toldC l md (j : Int) (rd_T50 (retoldTo l md ms j) (j : Int))) (show j * 5 = (j : Int).toNat * 5 + 0 by rw [Int.toNat_natCast, Nat.add_zero])
              rw [retold_step l md ms j (by rw [HLM.out]; exact hlt)] at hR
              exact ⟨S2.out.sec hR hg⟩
            case rest =>
              go_wp2_with fail
              go_roundg gk
              case measure => omega
              case rel => exact ⟨j + 1, by go_num, ⟨by have := HJ.out; omega⟩, hcut⟩
        · have hlt' : decide ((j : Int) < (ss.length : Int)) = false := decide_eq_false (by omega)
          have hj : j = ss.length := by have := HJ.out; omega
          have hre : retoldTo l md ms j = retold l md ms := by rw [retold, HLM.out, hj]
          have SF0 := Aside0.mk (show DoSt w wr gl gs ge gd [.int .i64 n, .slice A l.length c] [.bool true, .slice (some ⟨gr, 0, none⟩) ss.length cr, .slice Ad dd.length cd] [.int .i64 op, .int .i64 of, .int .i64 dir] [.int .i64 0, .bool false, .slice none 0 0, .slice none 0 0] (.slice (some ⟨gr, 0, none⟩) ss.length cr) (.slice Ad dd.length cd) (doSecs l ss dd op of dir) (doDead l ss dd op of) by rw [← HDS.out, ← HDD.out, ← hre]; exact SL.out)
          clear hj hre SL
          have kgs0 : wr.cell? ⟨gs, 0, none⟩ = some (.bool true) := (blk_cell SF0.out.hs 0).trans rfl
          have kgs1 : wr.cell? ⟨gs, 1, none⟩ = some (.slice (some ⟨gr, 0, none⟩) ss.length cr) := (blk_cell SF0.out.hs 1).trans rfl
          have kgs2 : wr.cell? ⟨gs, 2, none⟩ = some (.slice Ad dd.length cd) := (blk_cell SF0.out.hs 2).trans rfl
          have kd0 : wr.cell? ⟨gd, 0, none⟩ = some (.int .i64 0) := (blk_cell SF0.out.hd 0).trans rfl
          have kz0 := blk_frozen SF0.out.hd 0
          have kd1 : wr.cell? ⟨gd, 1, none⟩ = some (.bool false) := (blk_cell SF0.out.hd 1).trans rfl
          have kz1 := blk_frozen SF0.out.hd 1
          have kd2 : wr.cell? ⟨gd, 2, none⟩ = some (.slice none 0 0) := (blk_cell SF0.out.hd 2).trans rfl
          have kz2 := blk_frozen SF0.out.hd 2
          have kd3 : wr.cell? ⟨gd, 3, none⟩ = some (.slice none 0 0) := (blk_cell SF0.out.hd 3).trans rfl
          have kz3 := blk_frozen SF0.out.hd 3
          go_wp2_with fail
          have SF := SF0.out.fill (y0 := .int .i64 0) (y1 := .bool true) (y2 := (.slice (some ⟨gr, 0, none⟩) ss.length cr)) (y3 := (.slice Ad dd.length cd))
          exact bodyPost_ret (results_cell_row rfl _ _ gd 48 _ (0, 0) _ rfl SF.hd Try.underlying48 rfl (by kernel_rfl)) rfl ⟨_, _, by rw [HC0.out], SF.H1, SF.H2, SF.hB⟩
end Go.Proofs.Ytpdnabhpkdchjaa.P
namespace Go.Proofs.Ytpdnabhpkdchjaa.P
open Go.RowKit Go.Proofs.YtpdnabhpkdchjaaW.PrintWords Go.Proofs.YtpdnabhpkdchjaaW.PrintLast Go.Proofs.YtpdnabhpkdchjaaW.PrintMore
set_option linter.unusedVariables false
structure RnSt (w0 w : World) (gl gs : Nat) (lv sv : List Value) (u1 u2 : Value) (s : S46) (v : Value) (out : List S48) : Prop where
  hl : w.heap[gl]? = some (.cells lv.toArray 30 (0, 0))
  hs : w.heap[gs]? = some (.cells sv.toArray 46 (0, 0))
  V1 : Kd.V k50 50 w w0.heap.size (fun k => some k = u1.ownBlock) u1 s.f1
  V2 : Kd.V Kd.bool 4 w w0.heap.size (fun k => some k = u2.ownBlock) u2 s.f2
  HS : Kd.S k48 48 w w0.heap.size (fun _ => True) v out
  hB : Below w0.heap.size w0 w
  gle : w0.heap.size ≤ gl
  gse : w0.heap.size ≤ gs
structure MdSt (w0 wr w : World) (gl gs gd : Nat) (lv sv dv : List Value) (v2 v3 : Value) (ss : List S50) (dd : List Bool) (v : Value) (out : List S48) : Prop where
  hl : w.heap[gl]? = some (.cells lv.toArray 30 (0, 0))
  hs : w.heap[gs]? = some (.cells sv.toArray 46 (0, 0))
  hd : w.heap[gd]? = some (.cells dv.toArray 48 (0, 0))
  R1 : Kd.R k50 50 w wr.heap.size (fun _ => True) v2 ss
  R2 : Kd.R Kd.bool 4 w wr.heap.size (fun _ => True) v3 dd
  HS : Kd.S k48 48 w w0.heap.size (fun k => k < wr.heap.size) v out
  hB : Below w0.heap.size w0 w
  gle : w0.heap.size ≤ gl
  gse : w0.heap.size ≤ gs
  gde : wr.heap.size ≤ gd
  hw : w0.heap.size ≤ wr.heap.size
section
variable {w0 wr w w' w1 : World} {gl gs gd : Nat} {lv sv dv : List Value} {u1 u2 v v1 v2 v3 : Value} {s : S46} {ss : List S50} {dd : List Bool} {out : List S48}
theorem RnSt.up (h : RnSt w0 w gl gs lv sv u1 u2 s v out) (hb : Below w.heap.size w w') : RnSt w0 w' gl gs lv sv u1 u2 s v out where
  hl := blk_below h.hl hb
  hs := blk_below h.hs hb
  V1 := Kd.V_below h.V1 hb
  V2 := Kd.V_below h.V2 hb
  HS := Kd.S_below h.HS hb
  hB := below_step h.hB hb
  gle := h.gle
  gse := h.gse
theorem RnSt.mid (h : RnSt w0 wr gl gs lv sv u1 u2 s v out) (hb : Below wr.heap.size wr w) (hd : w.heap[gd]? = some (.cells dv.toArray 48 (0, 0))) (gde : wr.heap.size ≤ gd) (R1 : Kd.R k50 50 w wr.heap.size (fun _ => True) v2 ss) (R2 : Kd.R Kd.bool 4 w wr.heap.size (fun _ => True) v3 dd) :
    MdSt w0 wr w gl gs gd lv sv dv v2 v3 ss dd v out where
  hl := blk_below h.hl hb
  hs := blk_below h.hs hb
  hd := hd
  R1 := R1
  R2 := R2
  HS := Kd.S_below (Kd.S_mono (Kd.S_bound h.HS) (fun _ hk => hk.2.2.1)) hb
  hB := below_step h.hB hb
  gle := h.gle
  gse := h.gse
  gde := gde
  hw := h.hB.size
def okp (v2 v3 : Value) (k : Nat) : Prop := some k = v2.ownBlock ∨ some k = v3.ownBlock
theorem own_from {α : Type} {d : Kd α} {e : Nat} {base : Nat} {ok : Nat → Prop} {xs : List α} (h : d.R e w base ok v xs) (k : Nat) (hk : v.ownBlock = some k) : base ≤ k := by
  rcases Kd.R_base2 h with h2 | ⟨j, h2, h3⟩
  · rw [h2] at hk; cases hk
  · rw [h2] at hk; cases hk; exact h3
theorem MdSt.okp_new (h : MdSt w0 wr w gl gs gd lv sv dv v2 v3 ss dd v out) {k : Nat} (hk : okp v2 v3 k) : wr.heap.size ≤ k := by
  rcases hk with hk | hk
  · exact own_from h.R1 k hk.symm
  · exact own_from h.R2 k hk.symm
theorem MdSt.okp_ne (h : MdSt w0 wr w gl gs gd lv sv dv v2 v3 ss dd v out) {k : Nat} (hk : okp v2 v3 k) : some k ≠ v.ownBlock := by
  intro e
  have h1 := h.okp_new hk
  have h2 : k < wr.heap.size := (Kd.S_R h.HS).1 k e.symm
  omega
theorem MdSt.rest (h : MdSt w0 wr w gl gs gd lv sv dv v2 v3 ss dd v out) : Kd.S k48 48 w w0.heap.size (fun k => True ∧ ¬ okp v2 v3 k) v out :=
  Kd.S_mono h.HS (fun k hk => ⟨trivial, fun hp => by have := h.okp_new hp; omega⟩)
theorem MdSt.elem (h : MdSt w0 wr w gl gs gd lv sv dv v2 v3 ss dd v out) (code : Int) (b : Bool) : k48.M w w0.heap.size (okp v2 v3) ⟨code, ⟨b, ss, dd⟩⟩ [.int .i64 code, .bool b, v2, v3] :=
  k48_mkM w _ _ ⟨code, ⟨b, ss, dd⟩⟩ (Kd.R_mono (Kd.R_tight rfl (Kd.R_lower h.R1 h.hw)) (fun _ hk => .inl hk)) (Kd.R_mono (Kd.R_tight rfl (Kd.R_lower h.R2 h.hw)) (fun _ hk => .inr hk))
theorem MdSt.fin {x0 x1 x2 : Value} (h : MdSt w0 wr w gl gs gd lv [x0, x1, x2] dv v2 v3 ss dd v out) {code : Int} {b : Bool} (HS1 : Kd.S k48 48 w1 w0.heap.size (fun _ => True) v1 (out ++ [⟨code, ⟨b, ss, dd⟩⟩])) (hB1 : Below w0.heap.size w0 w1) (hg : w.grownBy w1 v.ownBlock) :
    RnSt w0 (((w1.setCell ⟨gs, 0, none⟩ (.bool b)).setCell ⟨gs, 1, none⟩ v2).setCell ⟨gs, 2, none⟩ v3) gl gs lv [.bool b, v2, v3] v2 v3 ⟨b, ss, dd⟩ v1 (out ++ [⟨code, ⟨b, ss, dd⟩⟩]) := by
  have ngs : ∀ k, some k = v2.ownBlock → k ≠ gs := fun k hk e => Kd.R_ne h.R1 h.hs (by decide) (e ▸ hk)
  have ngs3 : ∀ k, some k = v3.ownBlock → k ≠ gs := fun k hk e => Kd.R_ne h.R2 h.hs (by decide) (e ▸ hk)
  have hl1 := blk_grown h.hl hg (Kd.S_ne h.HS h.hl (by decide))
  have hs1 := blk_grown h.hs hg (Kd.S_ne h.HS h.hs (by decide))
  have ne := blk_ne hl1 hs1 (by decide)
  have W1 : Kd.V k50 50 w1 w0.heap.size (fun k => some k = v2.ownBlock) v2 ss := Kd.V_grown (Kd.R_V (Kd.R_tight rfl h.R1)) hg (fun k hk => h.okp_ne (.inl hk))
  have W2 : Kd.V Kd.bool 4 w1 w0.heap.size (fun k => some k = v3.ownBlock) v3 dd := Kd.V_grown (Kd.R_V (Kd.R_tight rfl h.R2)) hg (fun k hk => h.okp_ne (.inr hk))
  have hq : ∀ q, q ∈ 48 :: k48.E → q ≠ 46 := by decide
  have s0 := blk_put hs1 0 (.bool b) rfl
  have s1 := blk_put s0 1 v2 rfl
  have s2 := blk_put s1 2 v3 rfl
  exact {
    hl := blk_far (blk_far (blk_far hl1 ne _) ne _) ne _
    hs := s2
    V1 := Kd.V_far (Kd.V_far (Kd.V_far W1 (p := ⟨gs, 0, none⟩) ngs _) (p := ⟨gs, 1, none⟩) ngs _) (p := ⟨gs, 2, none⟩) ngs _
    V2 := Kd.V_far (Kd.V_far (Kd.V_far W2 (p := ⟨gs, 0, none⟩) ngs3 _) (p := ⟨gs, 1, none⟩) ngs3 _) (p := ⟨gs, 2, none⟩) ngs3 _
    HS := Kd.S_set (Kd.S_set (Kd.S_set HS1 hs1 hq 0 _) s0 hq 1 _) s1 hq 2 _
    hB := below_set (below_set (below_set hB1 h.gse) h.gse) h.gse
    gle := h.gle
    gse := h.gse }
theorem MdSt.at_ (h : MdSt w0 wr w gl gs gd lv sv dv v2 v3 ss dd v out) (hg : w.grownBy w1 v.ownBlock) : w1.heap[gd]? = some (.cells dv.toArray 48 (0, 0)) ∧ w1.heap[gs]? = some (.cells sv.toArray 46 (0, 0)) :=
  ⟨blk_grown h.hd hg (fun e => by have := (Kd.S_R h.HS).1 gd e.symm; have := h.gde; omega), blk_grown h.hs hg (Kd.S_ne h.HS h.hs (by decide))⟩
theorem MdSt.up (h : MdSt w0 wr w gl gs gd lv sv dv v2 v3 ss dd v out) (hb : Below w.heap.size w w') : MdSt w0 wr w' gl gs gd lv sv dv v2 v3 ss dd v out where
  hl := blk_below h.hl hb
  hs := blk_below h.hs hb
  hd := blk_below h.hd hb
  R1 := R_up h.R1 hb
  R2 := R_up h.R2 hb
  HS := Kd.S_below h.HS hb
  hB := below_step h.hB hb
  gle := h.gle
  gse := h.gse
  gde := h.gde
  hw := h.hw
theorem RnSt.midA {code : Int} {b : Bool} (h : RnSt w0 wr gl gs lv sv u1 u2 s v out) (hb : Below wr.heap.size wr w) (R1 : Kd.R k50 50 w wr.heap.size (fun _ => True) v2 ss) (R2 : Kd.R Kd.bool 4 w wr.heap.size (fun _ => True) v3 dd) :
    MdSt w0 wr (w.alloc (.cells #[.int .i64 code, .bool b, v2, v3] 48)) gl gs w.heap.size lv sv [.int .i64 code, .bool b, v2, v3] v2 v3 ss dd v out ∧ Below wr.heap.size wr (w.alloc (.cells #[.int .i64 code, .bool b, v2, v3] 48)) :=
  ⟨h.mid (below_alloc hb _) (heap_alloc_new w _) hb.size (R_up R1 (below_alloc (Below.refl _ _) _)) (R_up R2 (below_alloc (Below.refl _ _) _)), below_alloc hb _⟩
theorem RnSt.midB {code : Int} {b : Bool} {x0 x1 x2 x3 : Value} (h : RnSt w0 wr gl gs lv sv u1 u2 s v out) (hb : Below wr.heap.size wr w) (hd : w.heap[gd]? = some (.cells #[x0, x1, x2, x3] 48 (0, 0))) (gde : wr.heap.size ≤ gd) (R1 : Kd.R k50 50 w wr.heap.size (fun _ => True) v2 ss) (R2 : Kd.R Kd.bool 4 w wr.heap.size (fun _ => True) v3 dd) :
    MdSt w0 wr ((((w.setCell ⟨gd, 0, none⟩ (.int .i64 code)).setCell ⟨gd, 1, none⟩ (.bool b)).setCell ⟨gd, 2, none⟩ v2).setCell ⟨gd, 3, none⟩ v3) gl gs gd lv sv [.int .i64 code, .bool b, v2, v3] v2 v3 ss dd v out ∧
    Below wr.heap.size wr ((((w.setCell ⟨gd, 0, none⟩ (.int .i64 code)).setCell ⟨gd, 1, none⟩ (.bool b)).setCell ⟨gd, 2, none⟩ v2).setCell ⟨gd, 3, none⟩ v3) := by
  have B := below_set (j := 3) (v := v3) (below_set (j := 2) (v := v2) (below_set (j := 1) (v := .bool b) (below_set (j := 0) (v := .int .i64 code) hb gde) gde) gde) gde
  have n1 := Kd.R_ne R1 hd (by decide)
  have n2 := Kd.R_ne R2 hd (by decide)
  exact ⟨h.mid B (blk_put (blk_put (blk_put (blk_put hd 0 _ rfl) 1 _ rfl) 2 _ rfl) 3 _ rfl) gde (R_off rfl (R_off rfl (R_off rfl (R_off rfl R1 n1 _) n1 _) n1 _) n1 _) (R_off rfl (R_off rfl (R_off rfl (R_off rfl R2 n2 _) n2 _) n2 _) n2 _), B⟩
end
theorem alloc_blk {w w' : World} {o : Obj} (hb : Below (w.alloc o).heap.size (w.alloc o) w') : w'.heap[w.heap.size]? = some o := blk_below (heap_alloc_new w o) hb
theorem alloc_blk_drew {w w' : World} {o : Obj} (hb : Below (w.alloc o).drew.heap.size (w.alloc o).drew w') : w'.heap[w.heap.size]? = some o := blk_below (blk_drew (heap_alloc_new w o)) hb
theorem begin_is {n : Int} {A : Option Addr} {c : Nat} {l : List S88} {w : World} (hr : Kd.C k88 w A l.length l) (hc : l.length ≤ c) (hl : layoutOk n l = 0) :
    Calls Try.prog 44 #[.agg #[.int .i64 n, .slice A l.length c]] w fun e w' => ∃ v1_ v2_ : Value, e = .returned (.agg #[.bool true, v1_, v2_]) ∧ Kd.R k50 50 w' w.heap.size (fun _ => True) v1_ (st0 n l).f1 ∧ Kd.R Kd.bool 4 w' w.heap.size (fun _ => True) v2_ (st0 n l).f2 ∧ Below w.heap.size w w' := by
  have h := impl_Begin.calls n A c l (begin3 n l).1 (begin3 n l).2.1 (begin3 n l).2.2 w hr hc (implBegin_eq n l)
  rw [show begin3 n l = (true, (st0 n l).f1, (st0 n l).f2) by rw [begin3, if_pos hl]; rfl] at h
  exact h
theorem sbegin_is {n : Int} {A : Option Addr} {c : Nat} {l : List S88} {w : World} (hr : Kd.C k88 w A l.length l) (hc : l.length ≤ c) (hl : layoutOk n l = 0) :
    Calls Try.prog 43 #[.agg #[.int .i64 n, .slice A l.length c]] w fun e w' => ∃ v1_ v2_ : Value, e = .returned (.agg #[.bool true, v1_, v2_]) ∧ Kd.R k50 50 w' w.heap.size (fun _ => True) v1_ (st0 n l).f1 ∧ Kd.R Kd.bool 4 w' w.heap.size (fun _ => True) v2_ (st0 n l).f2 ∧ Below w.heap.size w w' := by
  obtain ⟨k, hk⟩ := (specBegin_ev n l).rounds
  have h := spec_Begin.calls k n A c l (begin3 n l).1 (begin3 n l).2.1 (begin3 n l).2.2 w hr hc hk
  rw [show begin3 n l = (true, (st0 n l).f1, (st0 n l).f2) by rw [begin3, if_pos hl]; rfl] at h
  exact h
end Go.Proofs.Ytpdnabhpkdchjaa.P
namespace Go.Proofs.Ytpdnabhpkdchjaa.P
open Go.RowKit Go.Proofs.YtpdnabhpkdchjaaW.PrintWords Go.Proofs.YtpdnabhpkdchjaaW.PrintLast Go.Proofs.YtpdnabhpkdchjaaW.PrintMore
attribute [local go_sem ↓] Go.wp_at_zero Go.wp_at_succ
set_option linter.unusedVariables false
set_option linter.unusedSimpArgs false
set_option maxHeartbeats 8000000 in
set_option maxRecDepth 100000 in
theorem run_is (n : Int) (A : Option Addr) (c : Nat) (l : List S88) (A1 : Option Addr) (c1 : Nat) (es : List S56) (w : World) (hr : Kd.C k88 w A l.length l) (hc : l.length ≤ c) (hr1 : Kd.C k56 w A1 es.length es) (hc1 : es.length ≤ c1) :
    Calls Try.prog 29 #[.agg #[.int .i64 n, .slice A l.length c], .slice A1 es.length c1] w fun e w' => ∃ v0_ : Value, e = .returned (v0_) ∧ Kd.S k48 48 w' w.heap.size (fun _ => True) v0_ (run n l es) ∧ Below w.heap.size w w' := by
  have HR := Aside0.mk hr
  have HC := Aside0.mk hc
  have HR1 := Aside0.mk hr1
  have HC1 := Aside0.mk hc1
  clear hr hc hr1 hc1
  by_cases hl : layoutOk n l = 0
  · by_cases he : es.length ≤ 2000
    · skip
      have b0 : (layoutOk n l != 0) = false := bne_eq_false_iff_eq.mpr hl
      have b1 : decide ((es.length : Int) > 2000) = false := decide_eq_false (by omega)
      have HL := Aside0.mk hl
      have HE := Aside0.mk he
      have HN := Aside0.mk (lay_n hl)
      clear hl he
      go_enter Try.func29, Try.ntmps29
      go_upto_region 5 with (first | ((with_reducible refine gate_dst (N := 2) rfl ?_); refine box_event ?hg (N := 2) ?hd (cs := #[.int .i64 n, .slice A l.length c]) (t := 30) ?hr ?_; (case hd => rfl); (case hg => rfl); (case hr => first | (go_simp; done) | (go_simp; rfl)); intro gl el wl kl bl; have hcz0 := (blk_cell kl 0).trans (show _ = some (Value.int .i64 n) from rfl); have hcz1 := (blk_cell kl 1).trans (show _ = some (Value.slice A l.length c) from rfl); have KL := Aside0.mk kl; have BL := Aside0.mk bl; have GL := Aside0.mk (show w.heap.size ≤ gl by rw [el]; exact Nat.le_refl _); clear kl bl el) | (go_at_call 25; refine (lay_is (Kd.C_below HR.out BL.out) HC.out).mono ?_; rintro e w1 ⟨rfl, hb⟩; have KL := Aside0.mk (blk_below KL.out hb); have BL := Aside0.mk (below_step BL.out hb); clear hb; have hcy0 := (blk_cell KL.out 0).trans (show _ = some (Value.int .i64 n) from rfl); have hcy1 := (blk_cell KL.out 1).trans (show _ = some (Value.slice A l.length c) from rfl)) | (go_at_call 44; refine (begin_is (Kd.C_below HR.out BL.out) HC.out HL.out).mono ?_; rintro e w2 ⟨v1, v2, rfl, r1, r2, hb⟩; obtain ⟨a1, d1, rfl⟩ := Kd.R_slice r1; obtain ⟨a2, d2, rfl⟩ := Kd.R_slice r2; have R1 := Aside0.mk (Kd.R_lower r1 BL.out.size); have R2 := Aside0.mk (Kd.R_lower r2 BL.out.size); have KL := Aside0.mk (blk_below KL.out hb); have BL := Aside0.mk (below_step BL.out hb); clear hb r1 r2) | ((with_reducible refine gate_dst (N := 6) rfl ?_); refine box_event ?hg (N := 6) ?hd (cs := #[.bool false, .slice none 0 0, .slice none 0 0]) (t := 46) ?hr ?_; (case hd => rfl); (case hg => rfl); (case hr => first | (go_simp; done) | (go_simp; rfl)); intro gs es_ ws ks bs; have KS := Aside0.mk ks; have ES := Aside0.mk es_; have BS := Aside0.mk bs; have zs0 := blk_frozen ks 0; have zs1 := blk_frozen ks 1; have zs2 := blk_frozen ks 2; have ks0 := (blk_cell ks 0).trans (show _ = some (Value.bool false) from rfl); have ks1 := (blk_cell ks 1).trans (show _ = some (Value.slice none 0 0) from rfl); have ks2 := (blk_cell ks 2).trans (show _ = some (Value.slice none 0 0) from rfl); clear ks es_ bs))
      clear hcz0 hcz1 hcy0 hcy1
      have BX := Aside0.mk (below_set (j := 2) (v := .slice a2 (st0 n l).f2.length d2) (below_set (j := 1) (v := .slice a1 (st0 n l).f1.length d1) (below_set (j := 0) (v := .bool true) BS.out (Nat.le_of_eq ES.out.symm)) (Nat.le_of_eq ES.out.symm)) (Nat.le_of_eq ES.out.symm))
      have KX := Aside0.mk (blk_put (blk_put (blk_put KS.out 0 (.bool true) rfl) 1 (.slice a1 (st0 n l).f1.length d1) rfl) 2 (.slice a2 (st0 n l).f2.length d2) rfl)
      have ST := Aside0.mk (show RnSt w (((ws.setCell ⟨gs, 0, none⟩ (.bool true)).setCell ⟨gs, 1, none⟩ (.slice a1 (st0 n l).f1.length d1)).setCell ⟨gs, 2, none⟩ (.slice a2 (st0 n l).f2.length d2)) gl gs [.int .i64 n, .slice A l.length c] [.bool true, .slice a1 (st0 n l).f1.length d1, .slice a2 (st0 n l).f2.length d2] (.slice a1 (st0 n l).f1.length d1) (.slice a2 (st0 n l).f2.length d2) (st0 n l) (.slice none 0 0) [] from ⟨blk_below KL.out BX.out, KX.out, Kd.V_below (Kd.R_V (Kd.R_tight rfl R1.out)) BX.out, Kd.V_below (Kd.R_V (Kd.R_tight rfl R2.out)) BX.out, Kd.S_nil _ _ _ _ _, below_step BL.out BX.out, GL.out, by rw [ES.out]; exact BL.out.size⟩)
      clear KL BL R1 R2 KS ES BS zs0 zs1 zs2 ks0 ks1 ks2 BX KX
      generalize (((ws.setCell ⟨gs, 0, none⟩ (.bool true)).setCell ⟨gs, 1, none⟩ (.slice a1 (st0 n l).f1.length d1)).setCell ⟨gs, 2, none⟩ (.slice a2 (st0 n l).f2.length d2)) = wa at ST ⊢
      go_wp2_with fail
      go_loopg [5, 22] es.length (fun kq vo v22 w' => ∃ j : Nat, v22 = .int .i64 j ∧ Aside0 (j + kq = es.length) ∧ ∃ u1 u2 : Value, Aside0 (RnSt w w' gl gs [.int .i64 n, .slice A l.length c] [.bool true, u1, u2] u1 u2 (stAt n l es j) vo (runTo n l es j)))
      case atStart => exact ⟨0, rfl, ⟨by omega⟩, _, _, ⟨by rw [stAt_zero]; exact ST.out⟩⟩
      case round =>
        clear ST
        obtain ⟨j, rfl, HJ, u1, u2, ST⟩ := hrel
        by_cases hlt : j < es.length
        · cases gk with
          | zero => exact absurd HJ.out (by omega)
          | succ gk =>
            have hlt' : decide ((j : Int) < (es.length : Int)) = true := decide_eq_true (by omega)
            have q0 : (0 : Int) ≤ (j : Int) := by omega
            have q1 : (j : Int) < (es.length : Int) := by omega
            obtain ⟨a1, d1, e1⟩ := Kd.V_slice ST.out.V1
            obtain ⟨a2, d2, e2⟩ := Kd.V_slice ST.out.V2
            subst e1 e2
            obtain ⟨ad, e, x0, x1, x2⟩ := at_T56 HR1.out (j : Int) q0 q1
            subst e
            replace x0 := pw_cell_below ST.out.hB x0
            replace x1 := pw_cell_below ST.out.hB x1
            replace x2 := pw_cell_below ST.out.hB x2
            rw [Int.toNat_natCast] at x0 x1 x2
            have HSU := Aside0.mk (stAt_succ n l es j hlt)
            have HRU := Aside0.mk (runTo_succ n l es j)
            have HLT := Aside0.mk (stAt_len n l es j)
            have HSO := Aside0.mk (stAt_ok HL.out es j)
            generalize hx : rd_T56 es (j : Int) = x at x0 x1 x2 HSU HRU
            clear hx
            generalize hst : stAt n l es j = s at ST HSU HRU HLT HSO ⊢
            clear hst
            go_upto_region 8 with ((with_reducible refine gate_dst (N := 8) rfl ?_); refine box_event ?hg (N := 8) ?hd (cs := #[.int .i64 0, .int .i64 0, .int .i64 0]) (t := 56) ?hr ?_; (case hd => rfl); (case hg => rfl); (case hr => first | (go_simp; done) | (go_simp; rfl)); intro ge ee we ke be; have KE := Aside0.mk ke; have EE := Aside0.mk ee; have BE := Aside0.mk be; have z0 := blk_frozen ke 0; have z1 := blk_frozen ke 1; have z2 := blk_frozen ke 2; have c0_ := (blk_cell ke 0).trans (show _ = some (Value.int .i64 0) from rfl); have c1_ := (blk_cell ke 1).trans (show _ = some (Value.int .i64 0) from rfl); have c2_ := (blk_cell ke 2).trans (show _ = some (Value.int .i64 0) from rfl); clear ke ee be)
            have KX := Aside0.mk (blk_put (blk_put (blk_put KE.out 0 (.int .i64 x.f0) rfl) 1 (.int .i64 x.f1) rfl) 2 (.int .i64 x.f2) rfl)
            have BX := Aside0.mk (below_set (j := 2) (v := .int .i64 x.f2) (below_set (j := 1) (v := .int .i64 x.f1) (below_set (j := 0) (v := .int .i64 x.f0) BE.out (Nat.le_of_eq EE.out.symm)) (Nat.le_of_eq EE.out.symm)) (Nat.le_of_eq EE.out.symm))
            clear KE BE EE z0 z1 z2 c0_ c1_ c2_ x0 x1 x2
            generalize (((we.setCell ⟨ge, 0, none⟩ (.int .i64 x.f0)).setCell ⟨ge, 1, none⟩ (.int .i64 x.f1)).setCell ⟨ge, 2, none⟩ (.int .i64 x.f2)) = w8 at KX BX ⊢
            go_cut [9] from 24 to 33 (fun v9 wx => ∃ (gd : Nat) (b2 b3 : Option Addr) (f2 f3 : Nat), v9 = .pointer (some ⟨gd, 0, none⟩) ∧ Aside0 (MdSt w wr wx gl gs gd [.int .i64 n, .slice A l.length c] [.bool true, .slice a1 s.f1.length d1, .slice a2 s.f2.length d2] [.int .i64 1, .bool true, (.slice b2 s.f1.length f2), (.slice b3 s.f2.length f3)] (.slice b2 s.f1.length f2) (.slice b3 s.f2.length f3) s.f1 s.f2 u5 (runTo n l es j) ∧ Below wr.heap.size wr wx ∧ wx.heap[ge]? = some (.cells #[.int .i64 x.f0, .int .i64 x.f1, .int .i64 x.f2] 56 (0, 0))))
            case first =>
              have f1 : impl_Section.f s.f1 = some s.f1 := by unfold impl_Section.f; rw [if_pos (by rw [HLT.out.1]; have := HN.out; omega)]
              have f2 : slices_Clone_bool_bool.f s.f2 = some s.f2 := by unfold slices_Clone_bool_bool.f; rw [if_pos (by rw [HLT.out.2.1]; have := HN.out; omega)]
              have F1 := Aside0.mk f1
              have F2 := Aside0.mk f2
              clear f1 f2
              have e1 : w8.cell? ⟨gs, 1, none⟩ = some (.slice a1 s.f1.length d1) := (blk_cell (blk_below ST.out.hs BX.out) 1).trans rfl
              have e2 : w8.cell? ⟨gs, 2, none⟩ = some (.slice a2 s.f2.length d2) := (blk_cell (blk_below ST.out.hs BX.out) 2).trans rfl
              have bx := Aside0.mk BX.out
              have ke := Aside0.mk KX.out
              have ksb := Aside0.mk (blk_below ST.out.hs BX.out)
              have KD : True := trivial
              have ng : True := trivial
              go_region_held3 (fun w' => w'.cell? ⟨gs, 1, none⟩ = some (.slice a1 s.f1.length d1) ∧ w'.cell? ⟨gs, 2, none⟩ = some (.slice a2 s.f2.length d2))
                (((with_reducible refine ⟨(blk_cell (cs := #[.bool true, (.slice a1 s.f1.length d1), (.slice a2 s.f2.length d2)]) (t := 46) ?_ 1).trans ?_, (blk_cell (cs := #[.bool true, (.slice a1 s.f1.length d1), (.slice a2 s.f2.length d2)]) (t := 46) ?_ 2).trans ?_⟩) <;> (first | with_reducible exact ksb.out | (with_reducible rfl) | (refine blk_below ksb.out ?_; (repeat (first | (with_reducible exact Below.refl _ _) | (with_reducible apply below_drew1) | (with_reducible apply below_alloc))); done) | (with_reducible refine blk_far ?_ (Ne.symm ng) _; with_reducible refine blk_far ?_ (Ne.symm ng) _; with_reducible refine blk_far ?_ (Ne.symm ng) _; with_reducible refine blk_far ?_ (Ne.symm ng) _; with_reducible exact ksb.out) | rfl)))
                (first | (go_at_call 94; refine (impl_Section.calls a1 d1 s.f1 s.f1 _ (Kd.V_reads' (Kd.V_below ST.out.V1 (by repeat (first | (with_reducible exact bx.out) | (with_reducible apply below_drew1) | (with_reducible apply below_alloc) | fail)))).2.2 (Kd.V_reads' ST.out.V1).2.1 F1.out).mono ?_; rintro e w' ⟨v1, rfl, ho1, hb⟩; obtain ⟨v1_a, v1_c, rfl⟩ := Kd.R_slice ho1; have HO1 := Aside0.mk (Kd.R_lower (base' := wr.heap.size) ho1 (show Below wr.heap.size wr _ from (by repeat (first | (with_reducible exact bx.out) | (with_reducible apply below_drew1) | (with_reducible apply below_alloc) | fail))).size); (first | (have HO2 := Aside0.mk (R_up HO2.out (by first | with_reducible exact hb | exact below_step (by repeat (first | (with_reducible exact Below.refl _ _) | (with_reducible apply below_drew1) | (with_reducible apply below_alloc) | fail)) hb | fail))) | skip); (first | (have KD := Aside0.mk (blk_below KD.out hb)) | (have KD := Aside0.mk (by with_reducible exact alloc_blk hb); have GD := Aside0.mk bx.out.size) | (have KD := Aside0.mk (by with_reducible exact alloc_blk_drew hb); have GD := Aside0.mk bx.out.size) | skip); (try (have zd0 := blk_frozen KD.out 0; have zd1 := blk_frozen KD.out 1; have zd2 := blk_frozen KD.out 2; have zd3 := blk_frozen KD.out 3; have kd0 := (blk_cell KD.out 0).trans (show _ = some (Value.int .i64 0) from rfl); have kd1 := (blk_cell KD.out 1).trans (show _ = some (Value.bool false) from rfl); have kd2 := (blk_cell KD.out 2).trans (show _ = some (Value.slice none 0 0) from rfl); have kd3 := (blk_cell KD.out 3).trans (show _ = some (Value.slice none 0 0) from rfl))); have ke := Aside0.mk (blk_below ke.out (by first | with_reducible exact hb | exact below_step (by repeat (first | (with_reducible exact Below.refl _ _) | (with_reducible apply below_drew1) | (with_reducible apply below_alloc) | fail)) hb | fail)); have ksb := Aside0.mk (blk_below ksb.out (by first | with_reducible exact hb | exact below_step (by repeat (first | (with_reducible exact Below.refl _ _) | (with_reducible apply below_drew1) | (with_reducible apply below_alloc) | fail)) hb | fail)); (try (have ng := blk_ne KD.out ksb.out (by decide))); have bx := Aside0.mk (below_step bx.out (by first | with_reducible exact hb | exact below_step (by repeat (first | (with_reducible exact Below.refl _ _) | (with_reducible apply below_drew1) | (with_reducible apply below_alloc) | fail)) hb | fail)); clear hb ho1) | (go_at_call 95; refine (slices_Clone_bool_bool.calls a2 d2 s.f2 s.f2 _ (Kd.V_reads' (Kd.V_below ST.out.V2 (by repeat (first | (with_reducible exact bx.out) | (with_reducible apply below_drew1) | (with_reducible apply below_alloc) | fail)))).2.2 (Kd.V_reads' ST.out.V2).2.1 F2.out).mono ?_; rintro e w' ⟨v2, rfl, ho2, hb⟩; obtain ⟨v2_a, v2_c, rfl⟩ := Kd.R_slice ho2; have HO2 := Aside0.mk (Kd.R_lower (base' := wr.heap.size) ho2 (show Below wr.heap.size wr _ from (by repeat (first | (with_reducible exact bx.out) | (with_reducible apply below_drew1) | (with_reducible apply below_alloc) | fail))).size); (first | (have HO1 := Aside0.mk (R_up HO1.out (by first | with_reducible exact hb | exact below_step (by repeat (first | (with_reducible exact Below.refl _ _) | (with_reducible apply below_drew1) | (with_reducible apply below_alloc) | fail)) hb | fail))) | skip); (first | (have KD := Aside0.mk (blk_below KD.out hb)) | (have KD := Aside0.mk (by with_reducible exact alloc_blk hb); have GD := Aside0.mk bx.out.size) | (have KD := Aside0.mk (by with_reducible exact alloc_blk_drew hb); have GD := Aside0.mk bx.out.size) | skip); (try (have zd0 := blk_frozen KD.out 0; have zd1 := blk_frozen KD.out 1; have zd2 := blk_frozen KD.out 2; have zd3 := blk_frozen KD.out 3; have kd0 := (blk_cell KD.out 0).trans (show _ = some (Value.int .i64 0) from rfl); have kd1 := (blk_cell KD.out 1).trans (show _ = some (Value.bool false) from rfl); have kd2 := (blk_cell KD.out 2).trans (show _ = some (Value.slice none 0 0) from rfl); have kd3 := (blk_cell KD.out 3).trans (show _ = some (Value.slice none 0 0) from rfl))); have ke := Aside0.mk (blk_below ke.out (by first | with_reducible exact hb | exact below_step (by repeat (first | (with_reducible exact Below.refl _ _) | (with_reducible apply below_drew1) | (with_reducible apply below_alloc) | fail)) hb | fail)); have ksb := Aside0.mk (blk_below ksb.out (by first | with_reducible exact hb | exact below_step (by repeat (first | (with_reducible exact Below.refl _ _) | (with_reducible apply below_drew1) | (with_reducible apply below_alloc) | fail)) hb | fail)); (try (have ng := blk_ne KD.out ksb.out (by decide))); have bx := Aside0.mk (below_step bx.out (by first | with_reducible exact hb | exact below_step (by repeat (first | (with_reducible exact Below.refl _ _) | (with_reducible apply below_drew1) | (with_reducible apply below_alloc) | fail)) hb | fail)); clear hb ho2))
              all_goals (go_wp2_with fail; go_meet)
              all_goals first | exact ⟨_, _, _, _, _, rfl, ⟨(ST.out.midA bx.out HO1.out HO2.out).1, (ST.out.midA bx.out HO1.out HO2.out).2, blk_below ke.out (below_alloc (Below.refl _ _) _)⟩⟩ | exact ⟨_, _, _, _, _, rfl, ⟨(ST.out.midB bx.out KD.out GD.out HO1.out HO2.out).1, (ST.out.midB bx.out KD.out GD.out HO1.out HO2.out).2, blk_far (blk_far (blk_far (blk_far ke.out (blk_ne ke.out KD.out (by decide)) _) (blk_ne ke.out KD.out (by decide)) _) (blk_ne ke.out KD.out (by decide)) _) (blk_ne ke.out KD.out (by decide)) _⟩⟩
            case rest =>
              obtain ⟨gd, b2, b3, f2, f3, rfl, HM⟩ := hcut
              clear KX BX
              have kl0 : wc.cell? ⟨gl, 0, none⟩ = some (.int .i64 n) := (blk_cell HM.out.1.hl 0).trans rfl
              have kl1 : wc.cell? ⟨gl, 1, none⟩ = some (.slice A l.length c) := (blk_cell HM.out.1.hl 1).trans rfl
              have ke0 : wc.cell? ⟨ge, 0, none⟩ = some (.int .i64 x.f0) := (blk_cell HM.out.2.2 0).trans rfl
              have ke1 : wc.cell? ⟨ge, 1, none⟩ = some (.int .i64 x.f1) := (blk_cell HM.out.2.2 1).trans rfl
              have ke2 : wc.cell? ⟨ge, 2, none⟩ = some (.int .i64 x.f2) := (blk_cell HM.out.2.2 2).trans rfl
              have ks0 : wc.cell? ⟨gs, 0, none⟩ = some (.bool true) := (blk_cell HM.out.1.hs 0).trans rfl
              have ks1 : wc.cell? ⟨gs, 1, none⟩ = some (.slice a1 s.f1.length d1) := (blk_cell HM.out.1.hs 1).trans rfl
              have ks2 : wc.cell? ⟨gs, 2, none⟩ = some (.slice a2 s.f2.length d2) := (blk_cell HM.out.1.hs 2).trans rfl
              cases hok : eventOk n l x.f0 x.f1 x.f2 with
              | false =>
                have HO := Aside0.mk hok
                clear hok
                have HST := Aside0.mk (show runStep n l s x = ⟨1, ⟨true, s.f1, s.f2⟩⟩ by unfold runStep; rw [HO.out]; rfl)
                go_upto_region 11 with (go_at_call 36; refine (ev_at x.f0 x.f1 x.f2 HO.out (Kd.C_below HR.out HM.out.1.hB) HC.out).mono ?_; rintro e wd ⟨rfl, hb⟩; have HM2 := Aside0.mk (And.intro (HM.out.1.up hb) (And.intro (below_step HM.out.2.1 hb) (blk_below HM.out.2.2 hb))); clear hb; have kd0 : wd.cell? ⟨gd, 0, none⟩ = some (.int .i64 1) := (blk_cell HM2.out.1.hd 0).trans rfl; have kd1 : wd.cell? ⟨gd, 1, none⟩ = some (.bool true) := (blk_cell HM2.out.1.hd 1).trans rfl; have kd2 : wd.cell? ⟨gd, 2, none⟩ = some (.slice b2 s.f1.length f2) := (blk_cell HM2.out.1.hd 2).trans rfl; have kd3 : wd.cell? ⟨gd, 3, none⟩ = some (.slice b3 s.f2.length f3) := (blk_cell HM2.out.1.hd 3).trans rfl)
                clear kl0 kl1 ke0 ke1 ke2 ks0 ks1 ks2
                go_wp2_with (at_builtin; refine Kd.S_append k48 (w0 := w) w.heap.size rfl (.tmp 41) (.tmp 43) 38 48 (.agg #[.int .i64 0, .bool false, .slice none 0 0, .slice none 0 0]) 64 rfl Try.underlying38 info48 rfl (by decide) (by decide) u5 (runTo n l es j) ⟨1, ⟨true, s.f1, s.f2⟩⟩ [.int .i64 (1), .bool true, (.slice b2 s.f1.length f2), (.slice b3 s.f2.length f3)] (fun _ => True) (okp (.slice b2 s.f1.length f2) (.slice b3 s.f2.length f3)) rfl rfl (HM2.out.1.elem (1) true) (fun k hk => ⟨trivial, HM2.out.1.okp_ne hk⟩) (fun _ _ => trivial) HM2.out.1.rest HM2.out.1.hB HM2.out.1.hB.size (by rw [runTo_length]; have := HE.out; omega) ?_; intro vn wn hsn hbn hgn _; have HSN := Aside0.mk hsn; have HBN := Aside0.mk hbn; have HGN := Aside0.mk hgn; have KD := Aside0.mk (HM2.out.1.at_ hgn).1; have KS := Aside0.mk (HM2.out.1.at_ hgn).2; clear hsn hbn hgn; have kd0 : wn.cell? ⟨gd, 0, none⟩ = some (.int .i64 (1)) := (blk_cell KD.out 0).trans rfl; have kd1 : wn.cell? ⟨gd, 1, none⟩ = some (.bool true) := (blk_cell KD.out 1).trans rfl; have kd2 : wn.cell? ⟨gd, 2, none⟩ = some (.slice b2 s.f1.length f2) := (blk_cell KD.out 2).trans rfl; have kd3 : wn.cell? ⟨gd, 3, none⟩ = some (.slice b3 s.f2.length f3) := (blk_cell KD.out 3).trans rfl; have kt0 : wn.cell? ⟨gs, 0, none⟩ = some (.bool true) := (blk_cell KS.out 0).trans rfl; have kt1 : wn.cell? ⟨gs, 1, none⟩ = some (.slice a1 s.f1.length d1) := (blk_cell KS.out 1).trans rfl; have kt2 : wn.cell? ⟨gs, 2, none⟩ = some (.slice a2 s.f2.length d2) := (blk_cell KS.out 2).trans rfl; have zt0 := blk_frozen KS.out 0; have zt1 := blk_frozen KS.out 1; have zt2 := blk_frozen KS.out 2)
                have SN := Aside0.mk (HM2.out.1.fin HSN.out HBN.out HGN.out)
                go_roundg gk
                case measure => omega
                case rel => exact ⟨j + 1, congrArg (Value.int .i64) (wrap_succ (by have := HE.out; omega)), ⟨by have := HJ.out; omega⟩, _, _, ⟨by rw [HSU.out, HRU.out, HST.out]; exact SN.out⟩⟩
              | true =>
                have HO := Aside0.mk hok
                clear hok
                have HST := Aside0.mk (show runStep n l s x = ⟨doCode l s.f1 s.f2 x.f0 x.f1, ⟨true, doSecs l s.f1 s.f2 x.f0 x.f1 x.f2, doDead l s.f1 s.f2 x.f0 x.f1⟩⟩ by unfold runStep; rw [if_pos HO.out])
                go_upto_region 11 with (first | (go_at_call 36; refine (ev_at x.f0 x.f1 x.f2 HO.out (Kd.C_below HR.out HM.out.1.hB) HC.out).mono ?_; rintro e wd ⟨rfl, hb⟩; have HM2 := Aside0.mk (And.intro (HM.out.1.up hb) (And.intro (below_step HM.out.2.1 hb) (blk_below HM.out.2.2 hb))); clear hb; have kl0 : wd.cell? ⟨gl, 0, none⟩ = some (.int .i64 n) := (blk_cell HM2.out.1.hl 0).trans rfl; have kl1 : wd.cell? ⟨gl, 1, none⟩ = some (.slice A l.length c) := (blk_cell HM2.out.1.hl 1).trans rfl; have ke0 : wd.cell? ⟨ge, 0, none⟩ = some (.int .i64 x.f0) := (blk_cell HM2.out.2.2 0).trans rfl; have ke1 : wd.cell? ⟨ge, 1, none⟩ = some (.int .i64 x.f1) := (blk_cell HM2.out.2.2 1).trans rfl; have ke2 : wd.cell? ⟨ge, 2, none⟩ = some (.int .i64 x.f2) := (blk_cell HM2.out.2.2 2).trans rfl; have ks0 : wd.cell? ⟨gs, 0, none⟩ = some (.bool true) := (blk_cell HM2.out.1.hs 0).trans rfl; have ks1 : wd.cell? ⟨gs, 1, none⟩ = some (.slice a1 s.f1.length d1) := (blk_cell HM2.out.1.hs 1).trans rfl; have ks2 : wd.cell? ⟨gs, 2, none⟩ = some (.slice a2 s.f2.length d2) := (blk_cell HM2.out.1.hs 2).trans rfl) | (go_at_call 96; refine (do_is n A c l true a1 d1 s.f1 a2 d2 s.f2 x.f0 x.f1 x.f2 _ (Kd.C_below HR.out HM2.out.1.hB) HC.out (Kd.V_reads' (Kd.V_below ST.out.V1 HM2.out.2.1)).2.2 (Kd.V_reads' ST.out.V1).2.1 (Kd.V_reads' (Kd.V_below ST.out.V2 HM2.out.2.1)).2.2 (Kd.V_reads' ST.out.V2).2.1 HL.out (by rw [HLT.out.1]; have := HN.out; omega) HLT.out.2.1 HO.out).mono ?_; rintro e wf ⟨v2, v3, rfl, r1, r2, hb⟩; obtain ⟨b4, f4, rfl⟩ := Kd.R_slice r1; obtain ⟨b5, f5, rfl⟩ := Kd.R_slice r2; have KD := Aside0.mk (blk_below HM2.out.1.hd hb); have NR1 := Aside0.mk (Kd.R_lower r1 HM2.out.2.1.size); have NR2 := Aside0.mk (Kd.R_lower r2 HM2.out.2.1.size); have BF := Aside0.mk (below_step HM2.out.2.1 hb); clear r1 r2 hb; have kd0 : wf.cell? ⟨gd, 0, none⟩ = some (.int .i64 1) := (blk_cell KD.out 0).trans rfl; have kd1 : wf.cell? ⟨gd, 1, none⟩ = some (.bool true) := (blk_cell KD.out 1).trans rfl; have kd2 : wf.cell? ⟨gd, 2, none⟩ = some (.slice b2 s.f1.length f2) := (blk_cell KD.out 2).trans rfl; have kd3 : wf.cell? ⟨gd, 3, none⟩ = some (.slice b3 s.f2.length f3) := (blk_cell KD.out 3).trans rfl; have zd0 := blk_frozen KD.out 0; have zd1 := blk_frozen KD.out 1; have zd2 := blk_frozen KD.out 2; have zd3 := blk_frozen KD.out 3))
                clear kl0 kl1 ke0 ke1 ke2 ks0 ks1 ks2 kd0 kd1 kd2 kd3 zd0 zd1 zd2 zd3
                have HM3 := Aside0.mk (ST.out.midB (code := (doCode l s.f1 s.f2 x.f0 x.f1)) (b := true) BF.out KD.out HM2.out.1.gde NR1.out NR2.out)
                clear HM HM2 KD NR1 NR2 BF
                generalize ((((wf.setCell ⟨gd, 0, none⟩ (.int .i64 (doCode l s.f1 s.f2 x.f0 x.f1))).setCell ⟨gd, 1, none⟩ (.bool true)).setCell ⟨gd, 2, none⟩ (.slice b4 (doSecs l s.f1 s.f2 x.f0 x.f1 x.f2).length f4)).setCell ⟨gd, 3, none⟩ (.slice b5 (doDead l s.f1 s.f2 x.f0 x.f1).length f5)) = wg at HM3 ⊢
                have kd0 : wg.cell? ⟨gd, 0, none⟩ = some (.int .i64 (doCode l s.f1 s.f2 x.f0 x.f1)) := (blk_cell HM3.out.1.hd 0).trans rfl
                have kd1 : wg.cell? ⟨gd, 1, none⟩ = some (.bool true) := (blk_cell HM3.out.1.hd 1).trans rfl
                have kd2 : wg.cell? ⟨gd, 2, none⟩ = some (.slice b4 (doSecs l s.f1 s.f2 x.f0 x.f1 x.f2).length f4) := (blk_cell HM3.out.1.hd 2).trans rfl
                have kd3 : wg.cell? ⟨gd, 3, none⟩ = some (.slice b5 (doDead l s.f1 s.f2 x.f0 x.f1).length f5) := (blk_cell HM3.out.1.hd 3).trans rfl
                go_wp2_with (at_builtin; refine Kd.S_append k48 (w0 := w) w.heap.size rfl (.tmp 41) (.tmp 43) 38 48 (.agg #[.int .i64 0, .bool false, .slice none 0 0, .slice none 0 0]) 64 rfl Try.underlying38 info48 rfl (by decide) (by decide) u5 (runTo n l es j) ⟨(doCode l s.f1 s.f2 x.f0 x.f1), ⟨true, doSecs l s.f1 s.f2 x.f0 x.f1 x.f2, doDead l s.f1 s.f2 x.f0 x.f1⟩⟩ [.int .i64 ((doCode l s.f1 s.f2 x.f0 x.f1)), .bool true, (.slice b4 (doSecs l s.f1 s.f2 x.f0 x.f1 x.f2).length f4), (.slice b5 (doDead l s.f1 s.f2 x.f0 x.f1).length f5)] (fun _ => True) (okp (.slice b4 (doSecs l s.f1 s.f2 x.f0 x.f1 x.f2).length f4) (.slice b5 (doDead l s.f1 s.f2 x.f0 x.f1).length f5)) rfl rfl (HM3.out.1.elem ((doCode l s.f1 s.f2 x.f0 x.f1)) true) (fun k hk => ⟨trivial, HM3.out.1.okp_ne hk⟩) (fun _ _ => trivial) HM3.out.1.rest HM3.out.1.hB HM3.out.1.hB.size (by rw [runTo_length]; have := HE.out; omega) ?_; intro vn wn hsn hbn hgn _; have HSN := Aside0.mk hsn; have HBN := Aside0.mk hbn; have HGN := Aside0.mk hgn; have KD := Aside0.mk (HM3.out.1.at_ hgn).1; have KS := Aside0.mk (HM3.out.1.at_ hgn).2; clear hsn hbn hgn; have kd0 : wn.cell? ⟨gd, 0, none⟩ = some (.int .i64 ((doCode l s.f1 s.f2 x.f0 x.f1))) := (blk_cell KD.out 0).trans rfl; have kd1 : wn.cell? ⟨gd, 1, none⟩ = some (.bool true) := (blk_cell KD.out 1).trans rfl; have kd2 : wn.cell? ⟨gd, 2, none⟩ = some (.slice b4 (doSecs l s.f1 s.f2 x.f0 x.f1 x.f2).length f4) := (blk_cell KD.out 2).trans rfl; have kd3 : wn.cell? ⟨gd, 3, none⟩ = some (.slice b5 (doDead l s.f1 s.f2 x.f0 x.f1).length f5) := (blk_cell KD.out 3).trans rfl; have kt0 : wn.cell? ⟨gs, 0, none⟩ = some (.bool true) := (blk_cell KS.out 0).trans rfl; have kt1 : wn.cell? ⟨gs, 1, none⟩ = some (.slice a1 s.f1.length d1) := (blk_cell KS.out 1).trans rfl; have kt2 : wn.cell? ⟨gs, 2, none⟩ = some (.slice a2 s.f2.length d2) := (blk_cell KS.out 2).trans rfl; have zt0 := blk_frozen KS.out 0; have zt1 := blk_frozen KS.out 1; have zt2 := blk_frozen KS.out 2)
                have SN := Aside0.mk (HM3.out.1.fin HSN.out HBN.out HGN.out)
                go_roundg gk
                case measure => omega
                case rel => exact ⟨j + 1, congrArg (Value.int .i64) (wrap_succ (by have := HE.out; omega)), ⟨by have := HJ.out; omega⟩, _, _, ⟨by rw [HSU.out, HRU.out, HST.out]; exact SN.out⟩⟩
        · have hlt' : decide ((j : Int) < (es.length : Int)) = false := decide_eq_false (by omega)
          have hj : j = es.length := by have := HJ.out; omega
          have HRN := Aside0.mk (show runTo n l es j = run n l es by rw [run, if_pos ⟨HL.out, HE.out⟩, hj])
          clear hj
          go_wp2_with fail
          go_ret
          exact ⟨_, rfl, HRN.out ▸ ST.out.HS, ST.out.hB⟩
    · skip
      have b0 : (layoutOk n l != 0) = false := bne_eq_false_iff_eq.mpr hl
      have b1 : decide ((es.length : Int) > 2000) = true := decide_eq_true (by omega)
      have HV := Aside0.mk (show ([] : List S48) = run n l es by rw [run, if_neg (fun h => he h.2)])
      clear hl he
      go_enter Try.func29, Try.ntmps29
      go_wp2_with (first | ((with_reducible refine gate_dst (N := 2) rfl ?_); refine box_event ?hg (N := 2) ?hd (cs := #[.int .i64 n, .slice A l.length c]) (t := 30) ?hr ?_; (case hd => rfl); (case hg => rfl); (case hr => first | (go_simp; done) | (go_simp; rfl)); intro gl el wl kl bl; have hcz0 := (blk_cell kl 0).trans (show _ = some (Value.int .i64 n) from rfl); have hcz1 := (blk_cell kl 1).trans (show _ = some (Value.slice A l.length c) from rfl); have KL := Aside0.mk kl; have BL := Aside0.mk bl; have GL := Aside0.mk (show w.heap.size ≤ gl by rw [el]; exact Nat.le_refl _); clear kl bl el) | (go_at_call 25; refine (lay_is (Kd.C_below HR.out BL.out) HC.out).mono ?_; rintro e w1 ⟨rfl, hb⟩; have KL := Aside0.mk (blk_below KL.out hb); have BL := Aside0.mk (below_step BL.out hb); clear hb; have hcy0 := (blk_cell KL.out 0).trans (show _ = some (Value.int .i64 n) from rfl); have hcy1 := (blk_cell KL.out 1).trans (show _ = some (Value.slice A l.length c) from rfl)))
      go_ret
      exact ⟨_, rfl, HV.out ▸ Kd.S_nil _ _ _ _ _, BL.out⟩
  · skip
    have b0 : (layoutOk n l != 0) = true := bne_iff_ne.mpr hl
    have HV := Aside0.mk (show ([] : List S48) = run n l es by rw [run, if_neg (fun h => hl h.1)])
    clear hl
    go_enter Try.func29, Try.ntmps29
    go_wp2_with (first | ((with_reducible refine gate_dst (N := 2) rfl ?_); refine box_event ?hg (N := 2) ?hd (cs := #[.int .i64 n, .slice A l.length c]) (t := 30) ?hr ?_; (case hd => rfl); (case hg => rfl); (case hr => first | (go_simp; done) | (go_simp; rfl)); intro gl el wl kl bl; have hcz0 := (blk_cell kl 0).trans (show _ = some (Value.int .i64 n) from rfl); have hcz1 := (blk_cell kl 1).trans (show _ = some (Value.slice A l.length c) from rfl); have KL := Aside0.mk kl; have BL := Aside0.mk bl; have GL := Aside0.mk (show w.heap.size ≤ gl by rw [el]; exact Nat.le_refl _); clear kl bl el) | (go_at_call 25; refine (lay_is (Kd.C_below HR.out BL.out) HC.out).mono ?_; rintro e w1 ⟨rfl, hb⟩; have KL := Aside0.mk (blk_below KL.out hb); have BL := Aside0.mk (below_step BL.out hb); clear hb; have hcy0 := (blk_cell KL.out 0).trans (show _ = some (Value.int .i64 n) from rfl); have hcy1 := (blk_cell KL.out 1).trans (show _ = some (Value.slice A l.length c) from rfl)))
    go_ret
    exact ⟨_, rfl, HV.out ▸ Kd.S_nil _ _ _ _ _, BL.out⟩
end Go.Proofs.Ytpdnabhpkdchjaa.P
namespace Go.Proofs.Ytpdnabhpkdchjaa.P
open Go.RowKit Go.Proofs.YtpdnabhpkdchjaaW.PrintWords Go.Proofs.YtpdnabhpkdchjaaW.PrintLast Go.Proofs.YtpdnabhpkdchjaaW.PrintMore
attribute [local go_sem] max2_int min2_int max_two min_two max_three min_three max_four min_four
set_option linter.unusedVariables false
set_option linter.unusedSimpArgs false
theorem eqA50 (d:Nat) (w:World) (x0 y0:Int) (x1 y1:Int) (x2 y2:Bool) (x3 y3:Bool) (x4 y4:Int) :
  (Op.equalIn (d+2) 50 (.agg #[.int .i64 x0,.int .i64 x1,.bool x2,.bool x3,.int .i64 x4]) (.agg #[.int .i64 y0,.int .i64 y1,.bool y2,.bool y3,.int .i64 y4])).run Try.prog w=.ok (x0==y0 && (x1==y1 && (x2==y2 && (x3==y3 && (x4==y4))))) w:=by
 refine eqA_of Try.underlying50 (by kernel_rfl) ?_
 refine eqf_cons (by rfl) (by go_simp;rfl) (by go_simp;rfl) (by go_simp) ?_
 refine eqf_cons (by rfl) (by go_simp;rfl) (by go_simp;rfl) (by go_simp) ?_
 refine eqf_cons (by rfl) (by go_simp;rfl) (by go_simp;rfl) (by go_simp) ?_
 refine eqf_cons (by rfl) (by go_simp;rfl) (by go_simp;rfl) (by go_simp) ?_
 exact eqf_last (by rfl) (by go_simp;rfl) (by go_simp;rfl) (by go_simp)
end Go.Proofs.Ytpdnabhpkdchjaa.P
namespace Go.Proofs.Ytpdnabhpkdchjaa.P
open Go.RowKit Go.Proofs.YtpdnabhpkdchjaaW.PrintWords Go.Proofs.YtpdnabhpkdchjaaW.PrintLast Go.Proofs.YtpdnabhpkdchjaaW.PrintMore
attribute [local go_sem] max2_int min2_int max_two min_two max_three min_three max_four min_four
set_option linter.unusedVariables false
set_option linter.unusedSimpArgs false
attribute [local go_sem high] eqA50
mutual
def laws_wState.j0:Nat→Bool→Bool→List (S50)→List Bool→Bool→List (S50)→List Bool→Option (Bool)
 | 0,_,_,_,_,_,_,_=>none
 | k+1,x29,x310000,x310001,x310002,x311000,x311001,x311002=>if x29=true then (some false) else (laws_wState.l0 k (x310001.length:Int) 0 x310000 x310001 x310002 x311000 x311001 x311002)
def laws_wState.l0:Nat→Int→Int→Bool→List (S50)→List Bool→Bool→List (S50)→List Bool→Option (Bool)
 | 0,_,_,_,_,_,_,_,_=>none
 | k+1,x32,x33,x310000,x310001,x310002,x311000,x311001,x311002=>if x33<x32 then (if 0≤x33 then (if x33<(x310001.length:Int) then (if x33<(x311001.length:Int) then (if (!(((rd_T50 x310001 x33).f0)==((rd_T50 x311001 x33).f0)) || (!(((rd_T50 x310001 x33).f1)==((rd_T50 x311001 x33).f1)) || (!(((rd_T50 x310001 x33).f2)==((rd_T50 x311001 x33).f2)) || (!(((rd_T50 x310001 x33).f3)==((rd_T50 x311001 x33).f3)) || (!(((rd_T50 x310001 x33).f4)==((rd_T50 x311001 x33).f4)))))))=true then (some false) else (laws_wState.l0 k x32 (wrap64 (x33+1)) x310000 x310001 x310002 x311000 x311001 x311002)) else (none)) else (none)) else (none)) else (laws_wState.l1 k (x310002.length:Int) 0 x310000 x310001 x310002 x311000 x311001 x311002)
def laws_wState.l1:Nat→Int→Int→Bool→List (S50)→List Bool→Bool→List (S50)→List Bool→Option (Bool)
 | 0,_,_,_,_,_,_,_,_=>none
 | k+1,x50,x51,x310000,x310001,x310002,x311000,x311001,x311002=>if x51<x50 then (if 0≤x51 then (if x51<(x310002.length:Int) then (if x51<(x311002.length:Int) then (if ((rdOf false x310002 x51) != (rdOf false x311002 x51))=true then (some false) else (laws_wState.l1 k x50 (wrap64 (x51+1)) x310000 x310001 x310002 x311000 x311001 x311002)) else (none)) else (none)) else (none)) else (some true)
end
def laws_wState.f (k:Nat) (a0_0:Bool) (l0_1:List (S50)) (l0_2:List Bool) (a1_0:Bool) (l1_1:List (S50)) (l1_2:List Bool):Option (Bool):=if (a0_0 != a1_0)=true then (laws_wState.j0 k true a0_0 l0_1 l0_2 a1_0 l1_1 l1_2) else (if (l0_1.length:Int)=(l1_1.length:Int) then (laws_wState.j0 k ((l0_2.length:Int) != (l1_2.length:Int)) a0_0 l0_1 l0_2 a1_0 l1_1 l1_2) else (laws_wState.j0 k true a0_0 l0_1 l0_2 a1_0 l1_1 l1_2))
set_option maxHeartbeats 8000000 in
set_option maxRecDepth 100000 in
theorem laws_wState.calls (k:Nat) (a0_0:Bool) (A0_1:Option Addr) (c0_1:Nat) (l0_1:List (S50)) (A0_2:Option Addr) (c0_2:Nat) (l0_2:List Bool) (a1_0:Bool) (A1_1:Option Addr) (c1_1:Nat) (l1_1:List (S50)) (A1_2:Option Addr) (c1_2:Nat) (l1_2:List Bool) (r:Bool) (w:World) (hr0_1:Kd.C k50 w A0_1 l0_1.length l0_1) (hc0_1:l0_1.length≤c0_1) (hr0_2:Kd.C Kd.bool w A0_2 l0_2.length l0_2) (hc0_2:l0_2.length≤c0_2) (hr1_1:Kd.C k50 w A1_1 l1_1.length l1_1) (hc1_1:l1_1.length≤c1_1) (hr1_2:Kd.C Kd.bool w A1_2 l1_2.length l1_2) (hc1_2:l1_2.length≤c1_2) (h:laws_wState.f k a0_0 l0_1 l0_2 a1_0 l1_1 l1_2=some r) :
  Calls Try.prog 33 #[.agg #[.bool a0_0,.slice A0_1 l0_1.length c0_1,.slice A0_2 l0_2.length c0_2],.agg #[.bool a1_0,.slice A1_1 l1_1.length c1_1,.slice A1_2 l1_2.length c1_2]] w fun e w'=>e=.returned (.bool r)∧Below w.heap.size w w':=by
 have hu46:=Try.underlying46
 have hu50:=Try.underlying50
 have HR0_1:=Aside0.mk hr0_1
 have HC0_1:=Aside0.mk hc0_1
 clear hr0_1 hc0_1
 have HR0_2:=Aside0.mk hr0_2
 have HC0_2:=Aside0.mk hc0_2
 clear hr0_2 hc0_2
 have HR1_1:=Aside0.mk hr1_1
 have HC1_1:=Aside0.mk hc1_1
 clear hr1_1 hc1_1
 have HR1_2:=Aside0.mk hr1_2
 have HC1_2:=Aside0.mk hc1_2
 clear hr1_2 hc1_2
 have HB:=Aside0.mk (Below.refl w.heap.size w)
 have H:(if (a0_0 != a1_0)=true then (laws_wState.j0 k true a0_0 l0_1 l0_2 a1_0 l1_1 l1_2) else (if (l0_1.length:Int)=(l1_1.length:Int) then (laws_wState.j0 k ((l0_2.length:Int) != (l1_2.length:Int)) a0_0 l0_1 l0_2 a1_0 l1_1 l1_2) else (laws_wState.j0 k true a0_0 l0_1 l0_2 a1_0 l1_1 l1_2)))=some r:=h
 clear h
 have HC3:=Aside0.mk H
 clear H
 go_enter Try.func33,Try.ntmps33
 go_upto_region 1 with (first|((with_reducible refine gate_dst (N:=2) rfl ?_);(try (refine gate_guard (by rfl) ?_;dsimp only));refine box_event ?hg (N:=2) ?hd (cs:=#[.bool a0_0,.slice A0_1 l0_1.length c0_1,.slice A0_2 l0_2.length c0_2]) (t:=46) ?hr ?_;(case hd=>rfl);(case hg=>rfl);(case hr=>first|(go_simp;done)|(go_simp;rfl));intro gb309 hg w4 hbox hb;have n0_:=Aside0.mk (below_step (by repeat (first|(with_reducible first|exact HB.out|apply below_alloc|apply pw_below_drewN|apply below_drew1)|exact HB.out)) hb);have n1_:=Aside0.mk (hbox);have n2_:=Aside0.mk ((by rw [hg];exact (below_size (by repeat (first|(with_reducible first|exact HB.out|apply below_alloc|apply pw_below_drewN|apply below_drew1)|exact HB.out))):w.heap.size≤gb309));have n3_:=Aside0.mk ((by rw [hg];exact (below_size (by repeat (first|(with_reducible first|exact HB.out|apply below_alloc|apply pw_below_drewN|apply below_drew1)|exact HB.out))):w.heap.size≤gb309));clear HB;have HB:=n0_;have BK309:=n1_;have GW309:=n2_;have GE309:=n3_;clear n0_ n1_ n2_ n3_;clear hb hbox hg)|((with_reducible refine gate_dst (N:=3) rfl ?_);(try (refine gate_guard (by rfl) ?_;dsimp only));refine box_event ?hg (N:=3) ?hd (cs:=#[.bool a1_0,.slice A1_1 l1_1.length c1_1,.slice A1_2 l1_2.length c1_2]) (t:=46) ?hr ?_;(case hd=>rfl);(case hg=>rfl);(case hr=>first|(go_simp;done)|(go_simp;rfl));intro gb310 hg w5 hbox hb;have n0_:=Aside0.mk (blk_below (g:=gb309) (o:=.cells #[.bool a0_0,.slice A0_1 l0_1.length c0_1,.slice A0_2 l0_2.length c0_2] 46 (0,0)) (by (with_reducible repeat (first|refine blk_drewN ?_ _|refine blk_drew ?_|refine blk_alloc ?_ _));exact BK309.out) hb);have n1_:=Aside0.mk (below_step (by repeat (first|(with_reducible first|exact HB.out|apply below_alloc|apply pw_below_drewN|apply below_drew1|refine below_set ?_ GE309.out)|exact HB.out)) hb);have n2_:=Aside0.mk (hbox);have n3_:=Aside0.mk ((by rw [hg];exact (below_size (by repeat (first|(with_reducible first|exact HB.out|apply below_alloc|apply pw_below_drewN|apply below_drew1|refine below_set ?_ GE309.out)|exact HB.out))):w.heap.size≤gb310));have n4_:=Aside0.mk ((by rw [hg];exact (below_size (by repeat (first|(with_reducible first|exact HB.out|apply below_alloc|apply pw_below_drewN|apply below_drew1|refine below_set ?_ GE309.out)|exact HB.out))):w.heap.size≤gb310));have n5_:=Aside0.mk ((by rw [hg];exact Nat.ne_of_lt (blk_lt (g:=gb309) (o:=.cells #[.bool a0_0,.slice A0_1 l0_1.length c0_1,.slice A0_2 l0_2.length c0_2] 46 (0,0)) (by (with_reducible repeat (first|refine blk_drewN ?_ _|refine blk_drew ?_|refine blk_alloc ?_ _));exact BK309.out)):gb309 ≠ gb310));have n6_:=Aside0.mk ((by rw [hg];exact Nat.ne_of_gt (blk_lt (g:=gb309) (o:=.cells #[.bool a0_0,.slice A0_1 l0_1.length c0_1,.slice A0_2 l0_2.length c0_2] 46 (0,0)) (by (with_reducible repeat (first|refine blk_drewN ?_ _|refine blk_drew ?_|refine blk_alloc ?_ _));exact BK309.out)):gb310 ≠ gb309));clear BK309;clear HB;have BK309:=n0_;have HB:=n1_;have BK310:=n2_;have GW310:=n3_;have GE310:=n4_;have NB309_310:=n5_;have NB310_309:=n6_;clear n0_ n1_ n2_ n3_ n4_ n5_ n6_;clear hb hbox hg))
 repeat (go_quiet (first|((with_reducible refine gate_dst (N:=2) rfl ?_);(try (refine gate_guard (by rfl) ?_;dsimp only));refine box_event ?hg (N:=2) ?hd (cs:=#[.bool a0_0,.slice A0_1 l0_1.length c0_1,.slice A0_2 l0_2.length c0_2]) (t:=46) ?hr ?_;(case hd=>rfl);(case hg=>rfl);(case hr=>first|(go_simp;done)|(go_simp;rfl));intro gb309 hg w4 hbox hb;have n0_:=Aside0.mk (below_step (by repeat (first|(with_reducible first|exact HB.out|apply below_alloc|apply pw_below_drewN|apply below_drew1)|exact HB.out)) hb);have n1_:=Aside0.mk (hbox);have n2_:=Aside0.mk ((by rw [hg];exact (below_size (by repeat (first|(with_reducible first|exact HB.out|apply below_alloc|apply pw_below_drewN|apply below_drew1)|exact HB.out))):w.heap.size≤gb309));have n3_:=Aside0.mk ((by rw [hg];exact (below_size (by repeat (first|(with_reducible first|exact HB.out|apply below_alloc|apply pw_below_drewN|apply below_drew1)|exact HB.out))):w.heap.size≤gb309));clear HB;have HB:=n0_;have BK309:=n1_;have GW309:=n2_;have GE309:=n3_;clear n0_ n1_ n2_ n3_;clear hb hbox hg)|((with_reducible refine gate_dst (N:=3) rfl ?_);(try (refine gate_guard (by rfl) ?_;dsimp only));refine box_event ?hg (N:=3) ?hd (cs:=#[.bool a1_0,.slice A1_1 l1_1.length c1_1,.slice A1_2 l1_2.length c1_2]) (t:=46) ?hr ?_;(case hd=>rfl);(case hg=>rfl);(case hr=>first|(go_simp;done)|(go_simp;rfl));intro gb310 hg w5 hbox hb;have n0_:=Aside0.mk (blk_below (g:=gb309) (o:=.cells #[.bool a0_0,.slice A0_1 l0_1.length c0_1,.slice A0_2 l0_2.length c0_2] 46 (0,0)) (by (with_reducible repeat (first|refine blk_drewN ?_ _|refine blk_drew ?_|refine blk_alloc ?_ _));exact BK309.out) hb);have n1_:=Aside0.mk (below_step (by repeat (first|(with_reducible first|exact HB.out|apply below_alloc|apply pw_below_drewN|apply below_drew1|refine below_set ?_ GE309.out)|exact HB.out)) hb);have n2_:=Aside0.mk (hbox);have n3_:=Aside0.mk ((by rw [hg];exact (below_size (by repeat (first|(with_reducible first|exact HB.out|apply below_alloc|apply pw_below_drewN|apply below_drew1|refine below_set ?_ GE309.out)|exact HB.out))):w.heap.size≤gb310));have n4_:=Aside0.mk ((by rw [hg];exact (below_size (by repeat (first|(with_reducible first|exact HB.out|apply below_alloc|apply pw_below_drewN|apply below_drew1|refine below_set ?_ GE309.out)|exact HB.out))):w.heap.size≤gb310));have n5_:=Aside0.mk ((by rw [hg];exact Nat.ne_of_lt (blk_lt (g:=gb309) (o:=.cells #[.bool a0_0,.slice A0_1 l0_1.length c0_1,.slice A0_2 l0_2.length c0_2] 46 (0,0)) (by (with_reducible repeat (first|refine blk_drewN ?_ _|refine blk_drew ?_|refine blk_alloc ?_ _));exact BK309.out)):gb309 ≠ gb310));have n6_:=Aside0.mk ((by rw [hg];exact Nat.ne_of_gt (blk_lt (g:=gb309) (o:=.cells #[.bool a0_0,.slice A0_1 l0_1.length c0_1,.slice A0_2 l0_2.length c0_2] 46 (0,0)) (by (with_reducible repeat (first|refine blk_drewN ?_ _|refine blk_drew ?_|refine blk_alloc ?_ _));exact BK309.out)):gb310 ≠ gb309));clear BK309;clear HB;have BK309:=n0_;have HB:=n1_;have BK310:=n2_;have GW310:=n3_;have GE310:=n4_;have NB309_310:=n5_;have NB310_309:=n6_;clear n0_ n1_ n2_ n3_ n4_ n5_ n6_;clear hb hbox hg));go_upto_region 1 with (first|((with_reducible refine gate_dst (N:=2) rfl ?_);(try (refine gate_guard (by rfl) ?_;dsimp only));refine box_event ?hg (N:=2) ?hd (cs:=#[.bool a0_0,.slice A0_1 l0_1.length c0_1,.slice A0_2 l0_2.length c0_2]) (t:=46) ?hr ?_;(case hd=>rfl);(case hg=>rfl);(case hr=>first|(go_simp;done)|(go_simp;rfl));intro gb309 hg w4 hbox hb;have n0_:=Aside0.mk (below_step (by repeat (first|(with_reducible first|exact HB.out|apply below_alloc|apply pw_below_drewN|apply below_drew1)|exact HB.out)) hb);have n1_:=Aside0.mk (hbox);have n2_:=Aside0.mk ((by rw [hg];exact (below_size (by repeat (first|(with_reducible first|exact HB.out|apply below_alloc|apply pw_below_drewN|apply below_drew1)|exact HB.out))):w.heap.size≤gb309));have n3_:=Aside0.mk ((by rw [hg];exact (below_size (by repeat (first|(with_reducible first|exact HB.out|apply below_alloc|apply pw_below_drewN|apply below_drew1)|exact HB.out))):w.heap.size≤gb309));clear HB;have HB:=n0_;have BK309:=n1_;have GW309:=n2_;have GE309:=n3_;clear n0_ n1_ n2_ n3_;clear hb hbox hg)|((with_reducible refine gate_dst (N:=3) rfl ?_);(try (refine gate_guard (by rfl) ?_;dsimp only));refine box_event ?hg (N:=3) ?hd (cs:=#[.bool a1_0,.slice A1_1 l1_1.length c1_1,.slice A1_2 l1_2.length c1_2]) (t:=46) ?hr ?_;(case hd=>rfl);(case hg=>rfl);(case hr=>first|(go_simp;done)|(go_simp;rfl));intro gb310 hg w5 hbox hb;have n0_:=Aside0.mk (blk_below (g:=gb309) (o:=.cells #[.bool a0_0,.slice A0_1 l0_1.length c0_1,.slice A0_2 l0_2.length c0_2] 46 (0,0)) (by (with_reducible repeat (first|refine blk_drewN ?_ _|refine blk_drew ?_|refine blk_alloc ?_ _));exact BK309.out) hb);have n1_:=Aside0.mk (below_step (by repeat (first|(with_reducible first|exact HB.out|apply below_alloc|apply pw_below_drewN|apply below_drew1|refine below_set ?_ GE309.out)|exact HB.out)) hb);have n2_:=Aside0.mk (hbox);have n3_:=Aside0.mk ((by rw [hg];exact (below_size (by repeat (first|(with_reducible first|exact HB.out|apply below_alloc|apply pw_below_drewN|apply below_drew1|refine below_set ?_ GE309.out)|exact HB.out))):w.heap.size≤gb310));have n4_:=Aside0.mk ((by rw [hg];exact (below_size (by repeat (first|(with_reducible first|exact HB.out|apply below_alloc|apply pw_below_drewN|apply below_drew1|refine below_set ?_ GE309.out)|exact HB.out))):w.heap.size≤gb310));have n5_:=Aside0.mk ((by rw [hg];exact Nat.ne_of_lt (blk_lt (g:=gb309) (o:=.cells #[.bool a0_0,.slice A0_1 l0_1.length c0_1,.slice A0_2 l0_2.length c0_2] 46 (0,0)) (by (with_reducible repeat (first|refine blk_drewN ?_ _|refine blk_drew ?_|refine blk_alloc ?_ _));exact BK309.out)):gb309 ≠ gb310));have n6_:=Aside0.mk ((by rw [hg];exact Nat.ne_of_gt (blk_lt (g:=gb309) (o:=.cells #[.bool a0_0,.slice A0_1 l0_1.length c0_1,.slice A0_2 l0_2.length c0_2] 46 (0,0)) (by (with_reducible repeat (first|refine blk_drewN ?_ _|refine blk_drew ?_|refine blk_alloc ?_ _));exact BK309.out)):gb310 ≠ gb309));clear BK309;clear HB;have BK309:=n0_;have HB:=n1_;have BK310:=n2_;have GW310:=n3_;have GE310:=n4_;have NB309_310:=n5_;have NB310_309:=n6_;clear n0_ n1_ n2_ n3_ n4_ n5_ n6_;clear hb hbox hg)))
 (try simp only [Act.put,List.setIfInBounds_toArray,List.set_cons_zero,List.set_cons_succ])
 go_cut [29] (fun v29 wc=>∃ (kq:Nat) (x29_2:Bool),v29=.bool x29_2∧Aside0 (laws_wState.j0 kq x29_2 a0_0 l0_1 l0_2 a1_0 l1_1 l1_2=some r)∧Aside0 (kq≤k)∧Aside0 (wc.heap[gb309]?=some (.cells #[.bool a0_0,(.slice A0_1 l0_1.length c0_1),(.slice A0_2 l0_2.length c0_2)] 46 (0,0)))∧Aside0 (wc.heap[gb310]?=some (.cells #[.bool a1_0,(.slice A1_1 l1_1.length c1_1),(.slice A1_2 l1_2.length c1_2)] 46 (0,0)))∧Aside0 (Below w.heap.size w wc))
 case first =>
  have H:=HC3.out
  clear HC3
  by_cases c6:(a0_0 != a1_0)=true
  ·rw [if_pos c6] at H
   have c6b0:(a0_0 != a1_0)=true:=c6
   (try (have c6b1:decide (a0_0=a1_0)=false:=by simpa using c6))
   (try (have c6b2:(a0_0==a1_0)=false:=by simpa using c6))
   (try (have c6b3:¬ (a0_0=a1_0):=by simpa using c6))
   clear c6
   (first|rw [c6b0]|(simp only [i64_w,i32_w];rw [c6b0])|skip)
   have H':=Aside0.mk H
   clear H
   have hnb7:=NB309_310.out
   have hnc7:=NB310_309.out
   have hcz8_0:w5.cell? ⟨gb309,0,none⟩=some (.bool a0_0):=(blk_cell BK309.out 0).trans rfl
   have hcz8_1:w5.cell? ⟨gb309,1,none⟩=some (.slice A0_1 l0_1.length c0_1):=(blk_cell BK309.out 1).trans rfl
   have hcz8_2:w5.cell? ⟨gb309,2,none⟩=some (.slice A0_2 l0_2.length c0_2):=(blk_cell BK309.out 2).trans rfl
   have hfz8_0:=blk_frozen BK309.out 0
   have hfz8_1:=blk_frozen BK309.out 1
   have hfz8_2:=blk_frozen BK309.out 2
   have hcz9_0:w5.cell? ⟨gb310,0,none⟩=some (.bool a1_0):=(blk_cell BK310.out 0).trans rfl
   have hcz9_1:w5.cell? ⟨gb310,1,none⟩=some (.slice A1_1 l1_1.length c1_1):=(blk_cell BK310.out 1).trans rfl
   have hcz9_2:w5.cell? ⟨gb310,2,none⟩=some (.slice A1_2 l1_2.length c1_2):=(blk_cell BK310.out 2).trans rfl
   have hfz9_0:=blk_frozen BK310.out 0
   have hfz9_1:=blk_frozen BK310.out 1
   have hfz9_2:=blk_frozen BK310.out 2
   go_wp2
   repeat (go_quiet (fail);try go_wp2)
   go_meet
   case rel=>exact ⟨_,(true),(by first|rfl|(simp;done)|(simp [*];done)),H',⟨by first|omega|exact Nat.le_refl _⟩,⟨by (with_reducible repeat (first|refine blk_drewN ?_ _|refine blk_drew ?_|refine blk_alloc ?_ _));exact BK309.out⟩,⟨by (with_reducible repeat (first|refine blk_drewN ?_ _|refine blk_drew ?_|refine blk_alloc ?_ _));exact BK310.out⟩,⟨by repeat (first|(with_reducible first|exact HB.out|apply below_alloc|apply pw_below_drewN|apply below_drew1|refine below_set ?_ GE309.out|refine below_set ?_ GE310.out)|exact HB.out)⟩⟩
  rw [if_neg c6] at H
  have c6b0:(a0_0 != a1_0)=false:=by simpa using c6
  (try (have c6b1:decide (a0_0=a1_0)=true:=by simpa using c6))
  (try (have c6b2:(a0_0==a1_0)=true:=by simpa using c6))
  clear c6
  (first|rw [c6b0]|(simp only [i64_w,i32_w];rw [c6b0])|skip)
  by_cases c10:(l0_1.length:Int)=(l1_1.length:Int)
  ·rw [if_pos c10] at H
   have c10b0:((l0_1.length:Int)==(l1_1.length:Int))=true:=beq_iff_eq.mpr c10
   have c10b1:((l0_1.length:Int) != (l1_1.length:Int))=false:=bne_eq_false_iff_eq.mpr c10
   have c10b2:(l0_1.length==l1_1.length)=true:=by first|simpa using c10|(simp at c10 ⊢;omega)
   clear c10
   have H':=Aside0.mk H
   clear H
   have hnb11:=NB309_310.out
   have hnc11:=NB310_309.out
   have hcz12_0:w5.cell? ⟨gb309,0,none⟩=some (.bool a0_0):=(blk_cell BK309.out 0).trans rfl
   have hcz12_1:w5.cell? ⟨gb309,1,none⟩=some (.slice A0_1 l0_1.length c0_1):=(blk_cell BK309.out 1).trans rfl
   have hcz12_2:w5.cell? ⟨gb309,2,none⟩=some (.slice A0_2 l0_2.length c0_2):=(blk_cell BK309.out 2).trans rfl
   have hfz12_0:=blk_frozen BK309.out 0
   have hfz12_1:=blk_frozen BK309.out 1
   have hfz12_2:=blk_frozen BK309.out 2
   have hcz13_0:w5.cell? ⟨gb310,0,none⟩=some (.bool a1_0):=(blk_cell BK310.out 0).trans rfl
   have hcz13_1:w5.cell? ⟨gb310,1,none⟩=some (.slice A1_1 l1_1.length c1_1):=(blk_cell BK310.out 1).trans rfl
   have hcz13_2:w5.cell? ⟨gb310,2,none⟩=some (.slice A1_2 l1_2.length c1_2):=(blk_cell BK310.out 2).trans rfl
   have hfz13_0:=blk_frozen BK310.out 0
   have hfz13_1:=blk_frozen BK310.out 1
   have hfz13_2:=blk_frozen BK310.out 2
   go_wp2
   repeat (go_quiet (fail);try go_wp2)
   go_meet
   case rel=>exact ⟨_,(((l0_2.length:Int) != (l1_2.length:Int))),(by first|rfl|(simp;done)|(simp [*];done)),H',⟨by first|omega|exact Nat.le_refl _⟩,⟨by (with_reducible repeat (first|refine blk_drewN ?_ _|refine blk_drew ?_|refine blk_alloc ?_ _));exact BK309.out⟩,⟨by (with_reducible repeat (first|refine blk_drewN ?_ _|refine blk_drew ?_|refine blk_alloc ?_ _));exact BK310.out⟩,⟨by repeat (first|(with_reducible first|exact HB.out|apply below_alloc|apply pw_below_drewN|apply below_drew1|refine below_set ?_ GE309.out|refine below_set ?_ GE310.out)|exact HB.out)⟩⟩
  rw [if_neg c10] at H
  have c10b0:((l0_1.length:Int)==(l1_1.length:Int))=false:=beq_eq_false_iff_ne.mpr c10
  have c10b1:((l0_1.length:Int) != (l1_1.length:Int))=true:=bne_iff_ne.mpr c10
  have c10b2:(l0_1.length==l1_1.length)=false:=by first|simpa using c10|(simp at c10 ⊢;omega)
  have H':=Aside0.mk H
  clear H
  have hnb14:=NB309_310.out
  have hnc14:=NB310_309.out
  have hcz15_0:w5.cell? ⟨gb309,0,none⟩=some (.bool a0_0):=(blk_cell BK309.out 0).trans rfl
  have hcz15_1:w5.cell? ⟨gb309,1,none⟩=some (.slice A0_1 l0_1.length c0_1):=(blk_cell BK309.out 1).trans rfl
  have hcz15_2:w5.cell? ⟨gb309,2,none⟩=some (.slice A0_2 l0_2.length c0_2):=(blk_cell BK309.out 2).trans rfl
  have hfz15_0:=blk_frozen BK309.out 0
  have hfz15_1:=blk_frozen BK309.out 1
  have hfz15_2:=blk_frozen BK309.out 2
  have hcz16_0:w5.cell? ⟨gb310,0,none⟩=some (.bool a1_0):=(blk_cell BK310.out 0).trans rfl
  have hcz16_1:w5.cell? ⟨gb310,1,none⟩=some (.slice A1_1 l1_1.length c1_1):=(blk_cell BK310.out 1).trans rfl
  have hcz16_2:w5.cell? ⟨gb310,2,none⟩=some (.slice A1_2 l1_2.length c1_2):=(blk_cell BK310.out 2).trans rfl
  have hfz16_0:=blk_frozen BK310.out 0
  have hfz16_1:=blk_frozen BK310.out 1
  have hfz16_2:=blk_frozen BK310.out 2
  go_wp2
  repeat (go_quiet (fail);try go_wp2)
  go_meet
  case rel=>exact ⟨_,(true),(by first|rfl|(simp;done)|(simp [*];done)),H',⟨by first|omega|exact Nat.le_refl _⟩,⟨by (with_reducible repeat (first|refine blk_drewN ?_ _|refine blk_drew ?_|refine blk_alloc ?_ _));exact BK309.out⟩,⟨by (with_reducible repeat (first|refine blk_drewN ?_ _|refine blk_drew ?_|refine blk_alloc ?_ _));exact BK310.out⟩,⟨by repeat (first|(with_reducible first|exact HB.out|apply below_alloc|apply pw_below_drewN|apply below_drew1|refine below_set ?_ GE309.out|refine below_set ?_ GE310.out)|exact HB.out)⟩⟩
 case rest =>
  clear HC3
  try clear c1
  try clear p2
  try clear c3
  try clear c6
  try clear c6b0
  try clear c6b1
  try clear c6b2
  try clear c7
  try clear c10
  try clear c10b0
  try clear c10b1
  try clear c10b2
  try clear c11
  try clear c14
  try clear hcz12_0
  try clear hcz12_1
  try clear hcz12_2
  try clear hcz13_0
  try clear hcz13_1
  try clear hcz13_2
  try clear hcz15_0
  try clear hcz15_1
  try clear hcz15_2
  try clear hcz16_0
  try clear hcz16_1
  try clear hcz16_2
  try clear hcz8_0
  try clear hcz8_1
  try clear hcz8_2
  try clear hcz9_0
  try clear hcz9_1
  try clear hcz9_2
  try clear hfz12_0
  try clear hfz12_1
  try clear hfz12_2
  try clear hfz13_0
  try clear hfz13_1
  try clear hfz13_2
  try clear hfz15_0
  try clear hfz15_1
  try clear hfz15_2
  try clear hfz16_0
  try clear hfz16_1
  try clear hfz16_2
  try clear hfz8_0
  try clear hfz8_1
  try clear hfz8_2
  try clear hfz9_0
  try clear hfz9_1
  try clear hfz9_2
  obtain ⟨kq,x29_2,rfl,HA,HJ2,BK309,BK310,HB⟩:=hcut
  cases kq with
  | zero=>exact absurd HA.out (by simp [laws_wState.j0])
  | succ kj2 =>
   have H:=HA.out
   clear HA
   simp only [laws_wState.j0] at H
   by_cases c17:x29_2=true
   ·subst c17
    have H1:(some false)=some r:=by rw [if_pos rfl] at H;exact H
    clear H
    have H:=H1
    clear H1
    obtain rfl:=Option.some.inj H
    go_wp2
    repeat (go_quiet (fail);try go_wp2)
    go_ret
    exact ⟨by first|rfl|(simp [errW_none,errW_some] <;> rfl)|(simp [*,errW_none,errW_some] <;> rfl),by repeat (first|(with_reducible first|exact HB.out|apply below_alloc|apply pw_below_drewN|apply below_drew1|refine below_set ?_ GE309.out|refine below_set ?_ GE310.out)|exact HB.out)⟩
   replace c17:=Bool.eq_false_iff.mpr c17
   subst c17
   have H1:(laws_wState.l0 kj2 (l0_1.length:Int) 0 a0_0 l0_1 l0_2 a1_0 l1_1 l1_2)=some r:=by rw [if_neg (show ¬ (false=true) by decide)] at H;exact H
   clear H
   have H:=H1
   clear H1
   have H':=Aside0.mk H
   clear H
   have hnb18:=NB309_310.out
   have hnc18:=NB310_309.out
   have hcz19_0:wc.cell? ⟨gb309,0,none⟩=some (.bool a0_0):=(blk_cell BK309.out 0).trans rfl
   have hcz19_1:wc.cell? ⟨gb309,1,none⟩=some (.slice A0_1 l0_1.length c0_1):=(blk_cell BK309.out 1).trans rfl
   have hcz19_2:wc.cell? ⟨gb309,2,none⟩=some (.slice A0_2 l0_2.length c0_2):=(blk_cell BK309.out 2).trans rfl
   have hfz19_0:=blk_frozen BK309.out 0
   have hfz19_1:=blk_frozen BK309.out 1
   have hfz19_2:=blk_frozen BK309.out 2
   go_wp2
   repeat (go_quiet (fail);try go_wp2)
   go_loopg [33] kj2 (fun kq v33 w'=>∃ (x33_2:Int),v33=.int .i64 x33_2∧Aside0 (laws_wState.l0 kq (l0_1.length:Int) x33_2 a0_0 l0_1 l0_2 a1_0 l1_1 l1_2=some r)∧Aside0 (kq≤kj2)∧Aside0 (w'.heap[gb309]?=some (.cells #[.bool a0_0,(.slice A0_1 l0_1.length c0_1),(.slice A0_2 l0_2.length c0_2)] 46 (0,0)))∧Aside0 (w'.heap[gb310]?=some (.cells #[.bool a1_0,(.slice A1_1 l1_1.length c1_1),(.slice A1_2 l1_2.length c1_2)] 46 (0,0)))∧Aside0 (Below w.heap.size w w'))
   case atStart=>exact ⟨(0),(by first|rfl|(simp;done)|(simp [*];done)),H',⟨Nat.le_refl _⟩,⟨by (with_reducible repeat (first|refine blk_drewN ?_ _|refine blk_drew ?_|refine blk_alloc ?_ _));exact BK309.out⟩,⟨by (with_reducible repeat (first|refine blk_drewN ?_ _|refine blk_drew ?_|refine blk_alloc ?_ _));exact BK310.out⟩,⟨by repeat (first|(with_reducible first|exact HB.out|apply below_alloc|apply pw_below_drewN|apply below_drew1|refine below_set ?_ GE309.out|refine below_set ?_ GE310.out)|exact HB.out)⟩⟩
   case round =>
    clear H'
    try clear c1
    try clear p2
    try clear c3
    try clear c6
    try clear c6b0
    try clear c6b1
    try clear c6b2
    try clear c7
    try clear c10
    try clear c10b0
    try clear c10b1
    try clear c10b2
    try clear c11
    try clear c14
    try clear c17
    try clear c18
    try clear hcz12_0
    try clear hcz12_1
    try clear hcz12_2
    try clear hcz13_0
    try clear hcz13_1
    try clear hcz13_2
    try clear hcz15_0
    try clear hcz15_1
    try clear hcz15_2
    try clear hcz16_0
    try clear hcz16_1
    try clear hcz16_2
    try clear hcz19_0
    try clear hcz19_1
    try clear hcz19_2
    try clear hcz8_0
    try clear hcz8_1
    try clear hcz8_2
    try clear hcz9_0
    try clear hcz9_1
    try clear hcz9_2
    try clear hfz12_0
    try clear hfz12_1
    try clear hfz12_2
    try clear hfz13_0
    try clear hfz13_1
    try clear hfz13_2
    try clear hfz15_0
    try clear hfz15_1
    try clear hfz15_2
    try clear hfz16_0
    try clear hfz16_1
    try clear hfz16_2
    try clear hfz19_0
    try clear hfz19_1
    try clear hfz19_2
    try clear hfz8_0
    try clear hfz8_1
    try clear hfz8_2
    try clear hfz9_0
    try clear hfz9_1
    try clear hfz9_2
    try clear p2
    obtain ⟨x33_2,rfl,HA,HK2,BK309,BK310,HB⟩:=hrel
    cases gk with
    | zero=>exact absurd HA.out (by simp [laws_wState.l0])
    | succ k2 =>
     have H:=HA.out
     clear HA
     simp only [laws_wState.l0] at H
     by_cases c20:x33_2<(l0_1.length:Int)
     ·rw [if_pos c20] at H
      have c20b0:decide (x33_2<(l0_1.length:Int))=true:=decide_eq_true c20
      clear c20
      by_cases c21:0≤x33_2
      ·rw [if_pos c21] at H
       have c21b0:decide (0≤x33_2)=true:=decide_eq_true c21
       clear c21
       by_cases c22:x33_2<(l0_1.length:Int)
       ·rw [if_pos c22] at H
        have c22b0:decide (x33_2<(l0_1.length:Int))=true:=decide_eq_true c22
        clear c22
        by_cases c23:x33_2<(l1_1.length:Int)
        ·rw [if_pos c23] at H
         have c23b0:decide (x33_2<(l1_1.length:Int))=true:=decide_eq_true c23
         clear c23
         by_cases c24:(!(((rd_T50 l0_1 x33_2).f0)==((rd_T50 l1_1 x33_2).f0)) || (!(((rd_T50 l0_1 x33_2).f1)==((rd_T50 l1_1 x33_2).f1)) || (!(((rd_T50 l0_1 x33_2).f2)==((rd_T50 l1_1 x33_2).f2)) || (!(((rd_T50 l0_1 x33_2).f3)==((rd_T50 l1_1 x33_2).f3)) || (!(((rd_T50 l0_1 x33_2).f4)==((rd_T50 l1_1 x33_2).f4)))))))=true
         ·rw [if_pos c24] at H
          have c24b0:(!(((rd_T50 l0_1 x33_2).f0)==((rd_T50 l1_1 x33_2).f0)) || (!(((rd_T50 l0_1 x33_2).f1)==((rd_T50 l1_1 x33_2).f1)) || (!(((rd_T50 l0_1 x33_2).f2)==((rd_T50 l1_1 x33_2).f2)) || (!(((rd_T50 l0_1 x33_2).f3)==((rd_T50 l1_1 x33_2).f3)) || (!(((rd_T50 l0_1 x33_2).f4)==((rd_T50 l1_1 x33_2).f4)))))))=true:=c24
          clear c24
          obtain rfl:=Option.some.inj H
          have hnb25:=NB309_310.out
          have hnc25:=NB310_309.out
          have hcz26_0:wr.cell? ⟨gb309,0,none⟩=some (.bool a0_0):=(blk_cell BK309.out 0).trans rfl
          have hcz26_1:wr.cell? ⟨gb309,1,none⟩=some (.slice A0_1 l0_1.length c0_1):=(blk_cell BK309.out 1).trans rfl
          have hcz26_2:wr.cell? ⟨gb309,2,none⟩=some (.slice A0_2 l0_2.length c0_2):=(blk_cell BK309.out 2).trans rfl
          have hfz26_0:=blk_frozen BK309.out 0
          have hfz26_1:=blk_frozen BK309.out 1
          have hfz26_2:=blk_frozen BK309.out 2
          have p311:0≤(x33_2:Int):=of_decide_eq_true (by first|(with_reducible assumption)|assumption)
          have q311:x33_2<(l0_1.length:Int):=of_decide_eq_true (by first|(with_reducible assumption)|assumption)
          obtain ⟨ad311,e311,hx311_0,hx311_1,hx311_2,hx311_3,hx311_4⟩:=at_T50 HR0_1.out x33_2 p311 q311
          cases e311
          replace hx311_0:=(HB.out.cell (World.block_lt_of_cell? w _ hx311_0)).trans hx311_0
          replace hx311_1:=(HB.out.cell (World.block_lt_of_cell? w _ hx311_1)).trans hx311_1
          replace hx311_2:=(HB.out.cell (World.block_lt_of_cell? w _ hx311_2)).trans hx311_2
          replace hx311_3:=(HB.out.cell (World.block_lt_of_cell? w _ hx311_3)).trans hx311_3
          replace hx311_4:=(HB.out.cell (World.block_lt_of_cell? w _ hx311_4)).trans hx311_4
          replace p311:=eq_true p311
          replace q311:=eq_true q311
          have hcz27_0:wr.cell? ⟨gb310,0,none⟩=some (.bool a1_0):=(blk_cell BK310.out 0).trans rfl
          have hcz27_1:wr.cell? ⟨gb310,1,none⟩=some (.slice A1_1 l1_1.length c1_1):=(blk_cell BK310.out 1).trans rfl
          have hcz27_2:wr.cell? ⟨gb310,2,none⟩=some (.slice A1_2 l1_2.length c1_2):=(blk_cell BK310.out 2).trans rfl
          have hfz27_0:=blk_frozen BK310.out 0
          have hfz27_1:=blk_frozen BK310.out 1
          have hfz27_2:=blk_frozen BK310.out 2
          have p312:0≤(x33_2:Int):=of_decide_eq_true (by first|(with_reducible assumption)|assumption)
          have q312:x33_2<(l1_1.length:Int):=of_decide_eq_true (by first|(with_reducible assumption)|assumption)
          obtain ⟨ad312,e312,hx312_0,hx312_1,hx312_2,hx312_3,hx312_4⟩:=at_T50 HR1_1.out x33_2 p312 q312
          cases e312
          replace hx312_0:=(HB.out.cell (World.block_lt_of_cell? w _ hx312_0)).trans hx312_0
          replace hx312_1:=(HB.out.cell (World.block_lt_of_cell? w _ hx312_1)).trans hx312_1
          replace hx312_2:=(HB.out.cell (World.block_lt_of_cell? w _ hx312_2)).trans hx312_2
          replace hx312_3:=(HB.out.cell (World.block_lt_of_cell? w _ hx312_3)).trans hx312_3
          replace hx312_4:=(HB.out.cell (World.block_lt_of_cell? w _ hx312_4)).trans hx312_4
          replace p312:=eq_true p312
          replace q312:=eq_true q312
          go_wp2
          repeat (go_quiet (fail);try go_wp2)
          go_ret
          exact ⟨by first|rfl|(simp [errW_none,errW_some] <;> rfl)|(simp [*,errW_none,errW_some] <;> rfl),by repeat (first|(with_reducible first|exact HB.out|apply below_alloc|apply pw_below_drewN|apply below_drew1|refine below_set ?_ GE309.out|refine below_set ?_ GE310.out)|exact HB.out)⟩
         rw [if_neg c24] at H
         have c24b0:(!(((rd_T50 l0_1 x33_2).f0)==((rd_T50 l1_1 x33_2).f0)) || (!(((rd_T50 l0_1 x33_2).f1)==((rd_T50 l1_1 x33_2).f1)) || (!(((rd_T50 l0_1 x33_2).f2)==((rd_T50 l1_1 x33_2).f2)) || (!(((rd_T50 l0_1 x33_2).f3)==((rd_T50 l1_1 x33_2).f3)) || (!(((rd_T50 l0_1 x33_2).f4)==((rd_T50 l1_1 x33_2).f4)))))))=false:=by simpa using c24
         clear c24
         have H':=Aside0.mk H
         clear H
         have hnb28:=NB309_310.out
         have hnc28:=NB310_309.out
         have hcz29_0:wr.cell? ⟨gb309,0,none⟩=some (.bool a0_0):=(blk_cell BK309.out 0).trans rfl
         have hcz29_1:wr.cell? ⟨gb309,1,none⟩=some (.slice A0_1 l0_1.length c0_1):=(blk_cell BK309.out 1).trans rfl
         have hcz29_2:wr.cell? ⟨gb309,2,none⟩=some (.slice A0_2 l0_2.length c0_2):=(blk_cell BK309.out 2).trans rfl
         have hfz29_0:=blk_frozen BK309.out 0
         have hfz29_1:=blk_frozen BK309.out 1
         have hfz29_2:=blk_frozen BK309.out 2
         have p311:0≤(x33_2:Int):=of_decide_eq_true (by first|(with_reducible assumption)|assumption)
         have q311:x33_2<(l0_1.length:Int):=of_decide_eq_true (by first|(with_reducible assumption)|assumption)
         obtain ⟨ad311,e311,hx311_0,hx311_1,hx311_2,hx311_3,hx311_4⟩:=at_T50 HR0_1.out x33_2 p311 q311
         cases e311
         replace hx311_0:=(HB.out.cell (World.block_lt_of_cell? w _ hx311_0)).trans hx311_0
         replace hx311_1:=(HB.out.cell (World.block_lt_of_cell? w _ hx311_1)).trans hx311_1
         replace hx311_2:=(HB.out.cell (World.block_lt_of_cell? w _ hx311_2)).trans hx311_2
         replace hx311_3:=(HB.out.cell (World.block_lt_of_cell? w _ hx311_3)).trans hx311_3
         replace hx311_4:=(HB.out.cell (World.block_lt_of_cell? w _ hx311_4)).trans hx311_4
         replace p311:=eq_true p311
         replace q311:=eq_true q311
         have hcz30_0:wr.cell? ⟨gb310,0,none⟩=some (.bool a1_0):=(blk_cell BK310.out 0).trans rfl
         have hcz30_1:wr.cell? ⟨gb310,1,none⟩=some (.slice A1_1 l1_1.length c1_1):=(blk_cell BK310.out 1).trans rfl
         have hcz30_2:wr.cell? ⟨gb310,2,none⟩=some (.slice A1_2 l1_2.length c1_2):=(blk_cell BK310.out 2).trans rfl
         have hfz30_0:=blk_frozen BK310.out 0
         have hfz30_1:=blk_frozen BK310.out 1
         have hfz30_2:=blk_frozen BK310.out 2
         have p312:0≤(x33_2:Int):=of_decide_eq_true (by first|(with_reducible assumption)|assumption)
         have q312:x33_2<(l1_1.length:Int):=of_decide_eq_true (by first|(with_reducible assumption)|assumption)
         obtain ⟨ad312,e312,hx312_0,hx312_1,hx312_2,hx312_3,hx312_4⟩:=at_T50 HR1_1.out x33_2 p312 q312
         cases e312
         replace hx312_0:=(HB.out.cell (World.block_lt_of_cell? w _ hx312_0)).trans hx312_0
         replace hx312_1:=(HB.out.cell (World.block_lt_of_cell? w _ hx312_1)).trans hx312_1
         replace hx312_2:=(HB.out.cell (World.block_lt_of_cell? w _ hx312_2)).trans hx312_2
         replace hx312_3:=(HB.out.cell (World.block_lt_of_cell? w _ hx312_3)).trans hx312_3
         replace hx312_4:=(HB.out.cell (World.block_lt_of_cell? w _ hx312_4)).trans hx312_4
         replace p312:=eq_true p312
         replace q312:=eq_true q312
         go_wp2
         repeat (go_quiet (fail);try go_wp2)
         go_roundg k2
         case measure=>have:=HJ2.out;have:=HK2.out;omega
         case rel=>exact ⟨(wrap64 (x33_2+1)),(by first|rfl|(simp;done)|(simp [*];done)),H',⟨by have:=HJ2.out;have:=HK2.out;omega⟩,⟨by (with_reducible repeat (first|refine blk_drewN ?_ _|refine blk_drew ?_|refine blk_alloc ?_ _));exact BK309.out⟩,⟨by (with_reducible repeat (first|refine blk_drewN ?_ _|refine blk_drew ?_|refine blk_alloc ?_ _));exact BK310.out⟩,⟨by repeat (first|(with_reducible first|exact HB.out|apply below_alloc|apply pw_below_drewN|apply below_drew1|refine below_set ?_ GE309.out|refine below_set ?_ GE310.out)|exact HB.out)⟩⟩
        rw [if_neg c23] at H
        exact absurd H (by simp)
       rw [if_neg c22] at H
       exact absurd H (by simp)
      rw [if_neg c21] at H
      exact absurd H (by simp)
     rw [if_neg c20] at H
     have c20b0:decide (x33_2<(l0_1.length:Int))=false:=decide_eq_false c20
     clear c20
     have H':=Aside0.mk H
     clear H
     have hnb31:=NB309_310.out
     have hnc31:=NB310_309.out
     have hcz32_0:wr.cell? ⟨gb309,0,none⟩=some (.bool a0_0):=(blk_cell BK309.out 0).trans rfl
     have hcz32_1:wr.cell? ⟨gb309,1,none⟩=some (.slice A0_1 l0_1.length c0_1):=(blk_cell BK309.out 1).trans rfl
     have hcz32_2:wr.cell? ⟨gb309,2,none⟩=some (.slice A0_2 l0_2.length c0_2):=(blk_cell BK309.out 2).trans rfl
     have hfz32_0:=blk_frozen BK309.out 0
     have hfz32_1:=blk_frozen BK309.out 1
     have hfz32_2:=blk_frozen BK309.out 2
     go_wp2
     repeat (go_quiet (fail);try go_wp2)
     go_loopg [51] k2 (fun kq v51 w'=>∃ (x51_3:Int),v51=.int .i64 x51_3∧Aside0 (laws_wState.l1 kq (l0_2.length:Int) x51_3 a0_0 l0_1 l0_2 a1_0 l1_1 l1_2=some r)∧Aside0 (kq≤k2)∧Aside0 (w'.heap[gb309]?=some (.cells #[.bool a0_0,(.slice A0_1 l0_1.length c0_1),(.slice A0_2 l0_2.length c0_2)] 46 (0,0)))∧Aside0 (w'.heap[gb310]?=some (.cells #[.bool a1_0,(.slice A1_1 l1_1.length c1_1),(.slice A1_2 l1_2.length c1_2)] 46 (0,0)))∧Aside0 (Below w.heap.size w w'))
     case atStart=>exact ⟨(0),(by first|rfl|(simp;done)|(simp [*];done)),H',⟨Nat.le_refl _⟩,⟨by (with_reducible repeat (first|refine blk_drewN ?_ _|refine blk_drew ?_|refine blk_alloc ?_ _));exact BK309.out⟩,⟨by (with_reducible repeat (first|refine blk_drewN ?_ _|refine blk_drew ?_|refine blk_alloc ?_ _));exact BK310.out⟩,⟨by repeat (first|(with_reducible first|exact HB.out|apply below_alloc|apply pw_below_drewN|apply below_drew1|refine below_set ?_ GE309.out|refine below_set ?_ GE310.out)|exact HB.out)⟩⟩
     case round =>
      clear H'
      try clear c1
      try clear c2
      try clear p2
      try clear c3
      try clear p3
      try clear q3
      try clear hx3
      try clear c6
      try clear c6b0
      try clear c6b1
      try clear c6b2
      try clear p6
      try clear c7
      try clear c10
      try clear c10b0
      try clear c10b1
      try clear c10b2
      try clear c11
      try clear c14
      try clear c17
      try clear c18
      try clear c20
      try clear c20b0
      try clear c21
      try clear c21b0
      try clear c22
      try clear c22b0
      try clear c23
      try clear c23b0
      try clear c24
      try clear c24b0
      try clear c25
      try clear c28
      try clear c31
      try clear p31
      try clear q31
      try clear hx31
      try clear hcz12_0
      try clear hcz12_1
      try clear hcz12_2
      try clear hcz13_0
      try clear hcz13_1
      try clear hcz13_2
      try clear hcz15_0
      try clear hcz15_1
      try clear hcz15_2
      try clear hcz16_0
      try clear hcz16_1
      try clear hcz16_2
      try clear hcz19_0
      try clear hcz19_1
      try clear hcz19_2
      try clear hcz26_0
      try clear hcz26_1
      try clear hcz26_2
      try clear hcz27_0
      try clear hcz27_1
      try clear hcz27_2
      try clear hcz29_0
      try clear hcz29_1
      try clear hcz29_2
      try clear hcz30_0
      try clear hcz30_1
      try clear hcz30_2
      try clear hcz32_0
      try clear hcz32_1
      try clear hcz32_2
      try clear hcz8_0
      try clear hcz8_1
      try clear hcz8_2
      try clear hcz9_0
      try clear hcz9_1
      try clear hcz9_2
      try clear hfz12_0
      try clear hfz12_1
      try clear hfz12_2
      try clear hfz13_0
      try clear hfz13_1
      try clear hfz13_2
      try clear hfz15_0
      try clear hfz15_1
      try clear hfz15_2
      try clear hfz16_0
      try clear hfz16_1
      try clear hfz16_2
      try clear hfz19_0
      try clear hfz19_1
      try clear hfz19_2
      try clear hfz26_0
      try clear hfz26_1
      try clear hfz26_2
      try clear hfz27_0
      try clear hfz27_1
      try clear hfz27_2
      try clear hfz29_0
      try clear hfz29_1
      try clear hfz29_2
      try clear hfz30_0
      try clear hfz30_1
      try clear hfz30_2
      try clear hfz32_0
      try clear hfz32_1
      try clear hfz32_2
      try clear hfz8_0
      try clear hfz8_1
      try clear hfz8_2
      try clear hfz9_0
      try clear hfz9_1
      try clear hfz9_2
      try clear hx311_0
      try clear hx311_1
      try clear hx311_2
      try clear hx311_3
      try clear hx311_4
      try clear hx312_0
      try clear hx312_1
      try clear hx312_2
      try clear hx312_3
      try clear hx312_4
      try clear p2
      try clear p311
      try clear p312
      try clear q311
      try clear q312
      obtain ⟨x51_3,rfl,HA,HK3,BK309,BK310,HB⟩:=hrel
      cases gk with
      | zero=>exact absurd HA.out (by simp [laws_wState.l1])
      | succ k3 =>
       have H:=HA.out
       clear HA
       simp only [laws_wState.l1] at H
       by_cases c33:x51_3<(l0_2.length:Int)
       ·rw [if_pos c33] at H
        have c33b0:decide (x51_3<(l0_2.length:Int))=true:=decide_eq_true c33
        clear c33
        by_cases c34:0≤x51_3
        ·rw [if_pos c34] at H
         have c34b0:decide (0≤x51_3)=true:=decide_eq_true c34
         clear c34
         by_cases c35:x51_3<(l0_2.length:Int)
         ·rw [if_pos c35] at H
          have c35b0:decide (x51_3<(l0_2.length:Int))=true:=decide_eq_true c35
          clear c35
          by_cases c36:x51_3<(l1_2.length:Int)
          ·rw [if_pos c36] at H
           have c36b0:decide (x51_3<(l1_2.length:Int))=true:=decide_eq_true c36
           clear c36
           by_cases c37:((rdOf false l0_2 x51_3) != (rdOf false l1_2 x51_3))=true
           ·rw [if_pos c37] at H
            have c37b0:((rdOf false l0_2 x51_3) != (rdOf false l1_2 x51_3))=true:=c37
            (try (have c37b1:decide ((rdOf false l0_2 x51_3)=(rdOf false l1_2 x51_3))=false:=by simpa using c37))
            (try (have c37b2:((rdOf false l0_2 x51_3)==(rdOf false l1_2 x51_3))=false:=by simpa using c37))
            (try (have c37b3:¬ ((rdOf false l0_2 x51_3)=(rdOf false l1_2 x51_3)):=by simpa using c37))
            clear c37
            obtain rfl:=Option.some.inj H
            have hnb38:=NB309_310.out
            have hnc38:=NB310_309.out
            have hcz39_0:wr.cell? ⟨gb309,0,none⟩=some (.bool a0_0):=(blk_cell BK309.out 0).trans rfl
            have hcz39_1:wr.cell? ⟨gb309,1,none⟩=some (.slice A0_1 l0_1.length c0_1):=(blk_cell BK309.out 1).trans rfl
            have hcz39_2:wr.cell? ⟨gb309,2,none⟩=some (.slice A0_2 l0_2.length c0_2):=(blk_cell BK309.out 2).trans rfl
            have hfz39_0:=blk_frozen BK309.out 0
            have hfz39_1:=blk_frozen BK309.out 1
            have hfz39_2:=blk_frozen BK309.out 2
            have p313:0≤(x51_3:Int):=of_decide_eq_true (by first|(with_reducible assumption)|assumption)
            have q313:x51_3<(l0_2.length:Int):=of_decide_eq_true (by first|(with_reducible assumption)|assumption)
            obtain ⟨ad313,e313,hx313_0⟩:=Kd.at_bool HR0_2.out x51_3 p313 q313
            cases e313
            replace hx313_0:=(HB.out.cell (World.block_lt_of_cell? w _ hx313_0)).trans hx313_0
            replace p313:=eq_true p313
            replace q313:=eq_true q313
            have hcz40_0:wr.cell? ⟨gb310,0,none⟩=some (.bool a1_0):=(blk_cell BK310.out 0).trans rfl
            have hcz40_1:wr.cell? ⟨gb310,1,none⟩=some (.slice A1_1 l1_1.length c1_1):=(blk_cell BK310.out 1).trans rfl
            have hcz40_2:wr.cell? ⟨gb310,2,none⟩=some (.slice A1_2 l1_2.length c1_2):=(blk_cell BK310.out 2).trans rfl
            have hfz40_0:=blk_frozen BK310.out 0
            have hfz40_1:=blk_frozen BK310.out 1
            have hfz40_2:=blk_frozen BK310.out 2
            have p314:0≤(x51_3:Int):=of_decide_eq_true (by first|(with_reducible assumption)|assumption)
            have q314:x51_3<(l1_2.length:Int):=of_decide_eq_true (by first|(with_reducible assumption)|assumption)
            obtain ⟨ad314,e314,hx314_0⟩:=Kd.at_bool HR1_2.out x51_3 p314 q314
            cases e314
            replace hx314_0:=(HB.out.cell (World.block_lt_of_cell? w _ hx314_0)).trans hx314_0
            replace p314:=eq_true p314
            replace q314:=eq_true q314
            go_wp2
            repeat (go_quiet (fail);try go_wp2)
            go_ret
            exact ⟨by first|rfl|(simp [errW_none,errW_some] <;> rfl)|(simp [*,errW_none,errW_some] <;> rfl),by repeat (first|(with_reducible first|exact HB.out|apply below_alloc|apply pw_below_drewN|apply below_drew1|refine below_set ?_ GE309.out|refine below_set ?_ GE310.out)|exact HB.out)⟩
           rw [if_neg c37] at H
           have c37b0:((rdOf false l0_2 x51_3) != (rdOf false l1_2 x51_3))=false:=by simpa using c37
           (try (have c37b1:decide ((rdOf false l0_2 x51_3)=(rdOf false l1_2 x51_3))=true:=by simpa using c37))
           (try (have c37b2:((rdOf false l0_2 x51_3)==(rdOf false l1_2 x51_3))=true:=by simpa using c37))
           clear c37
           have H':=Aside0.mk H
           clear H
           have hnb41:=NB309_310.out
           have hnc41:=NB310_309.out
           have hcz42_0:wr.cell? ⟨gb309,0,none⟩=some (.bool a0_0):=(blk_cell BK309.out 0).trans rfl
           have hcz42_1:wr.cell? ⟨gb309,1,none⟩=some (.slice A0_1 l0_1.length c0_1):=(blk_cell BK309.out 1).trans rfl
           have hcz42_2:wr.cell? ⟨gb309,2,none⟩=some (.slice A0_2 l0_2.length c0_2):=(blk_cell BK309.out 2).trans rfl
           have hfz42_0:=blk_frozen BK309.out 0
           have hfz42_1:=blk_frozen BK309.out 1
           have hfz42_2:=blk_frozen BK309.out 2
           have p313:0≤(x51_3:Int):=of_decide_eq_true (by first|(with_reducible assumption)|assumption)
           have q313:x51_3<(l0_2.length:Int):=of_decide_eq_true (by first|(with_reducible assumption)|assumption)
           obtain ⟨ad313,e313,hx313_0⟩:=Kd.at_bool HR0_2.out x51_3 p313 q313
           cases e313
           replace hx313_0:=(HB.out.cell (World.block_lt_of_cell? w _ hx313_0)).trans hx313_0
           replace p313:=eq_true p313
           replace q313:=eq_true q313
           have hcz43_0:wr.cell? ⟨gb310,0,none⟩=some (.bool a1_0):=(blk_cell BK310.out 0).trans rfl
           have hcz43_1:wr.cell? ⟨gb310,1,none⟩=some (.slice A1_1 l1_1.length c1_1):=(blk_cell BK310.out 1).trans rfl
           have hcz43_2:wr.cell? ⟨gb310,2,none⟩=some (.slice A1_2 l1_2.length c1_2):=(blk_cell BK310.out 2).trans rfl
           have hfz43_0:=blk_frozen BK310.out 0
           have hfz43_1:=blk_frozen BK310.out 1
           have hfz43_2:=blk_frozen BK310.out 2
           have p314:0≤(x51_3:Int):=of_decide_eq_true (by first|(with_reducible assumption)|assumption)
           have q314:x51_3<(l1_2.length:Int):=of_decide_eq_true (by first|(with_reducible assumption)|assumption)
           obtain ⟨ad314,e314,hx314_0⟩:=Kd.at_bool HR1_2.out x51_3 p314 q314
           cases e314
           replace hx314_0:=(HB.out.cell (World.block_lt_of_cell? w _ hx314_0)).trans hx314_0
           replace p314:=eq_true p314
           replace q314:=eq_true q314
           go_wp2
           repeat (go_quiet (fail);try go_wp2)
           go_roundg k3
           case measure=>have:=HJ2.out;have:=HK2.out;have:=HK3.out;omega
           case rel=>exact ⟨(wrap64 (x51_3+1)),(by first|rfl|(simp;done)|(simp [*];done)),H',⟨by have:=HJ2.out;have:=HK2.out;have:=HK3.out;omega⟩,⟨by (with_reducible repeat (first|refine blk_drewN ?_ _|refine blk_drew ?_|refine blk_alloc ?_ _));exact BK309.out⟩,⟨by (with_reducible repeat (first|refine blk_drewN ?_ _|refine blk_drew ?_|refine blk_alloc ?_ _));exact BK310.out⟩,⟨by repeat (first|(with_reducible first|exact HB.out|apply below_alloc|apply pw_below_drewN|apply below_drew1|refine below_set ?_ GE309.out|refine below_set ?_ GE310.out)|exact HB.out)⟩⟩
          rw [if_neg c36] at H
          exact absurd H (by simp)
         rw [if_neg c35] at H
         exact absurd H (by simp)
        rw [if_neg c34] at H
        exact absurd H (by simp)
       rw [if_neg c33] at H
       have c33b0:decide (x51_3<(l0_2.length:Int))=false:=decide_eq_false c33
       clear c33
       obtain rfl:=Option.some.inj H
       go_wp2
       repeat (go_quiet (fail);try go_wp2)
       go_ret
       exact ⟨by first|rfl|(simp [errW_none,errW_some] <;> rfl)|(simp [*,errW_none,errW_some] <;> rfl),by repeat (first|(with_reducible first|exact HB.out|apply below_alloc|apply pw_below_drewN|apply below_drew1|refine below_set ?_ GE309.out|refine below_set ?_ GE310.out)|exact HB.out)⟩
end Go.Proofs.Ytpdnabhpkdchjaa.P
