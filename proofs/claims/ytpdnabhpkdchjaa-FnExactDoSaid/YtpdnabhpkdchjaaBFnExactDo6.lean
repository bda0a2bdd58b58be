/- The statement FnExactDo holds of the given program, for every argument; there are no conditions. (Part 6 of 6.) -/
import Derived.Test.YtpdnabhpkdchjaaBFnExactDo5
import Derived.ShutString
namespace Go.Proofs.Ytpdnabhpkdchjaa.WalkFnExactDo
open Go.RowKit Go.Proofs.YtpdnabhpkdchjaaW.PrintWords Go.Proofs.YtpdnabhpkdchjaaW.PrintLast Go.Proofs.YtpdnabhpkdchjaaW.PrintMore P
attribute [local go_sem ↓] Go.wp_at_zero Go.wp_at_succ
set_option linter.unusedVariables false
set_option linter.unusedSimpArgs false
def dw_T8 : Bool × List (List Nat × List Nat) := (true, [([], []), ([0], [0]), ([], []), ([2, 1], [2]), ([], []), ([4, 3], [4]), ([1, 3, 5, 5], [1, 3, 5]), ([], []), ([7, 6, 6, 0, 1, 2, 3, 4, 5, 6, 7], [6, 7])])
def dw_B8 : List Nat := [0, 1, 0, 7, 0, 31, 63, 0, 255]
theorem dw_tab8 : rtab .any (opsOf Try.f17 8) = dw_T8 := by kernel_rfl
theorem dw_bits8 : waitsOk dw_T8.2 dw_B8 = true := by kernel_rfl
def dw_T11 : Bool × List (List Nat × List Nat) := (true, [([], []), ([], []), ([], []), ([2], [2]), ([0, 1, 3, 3], [0, 1, 3]), ([], []), ([5, 4, 4, 0, 1, 2, 3, 4, 5], [4, 5])])
def dw_B11 : List Nat := [0, 0, 0, 4, 15, 0, 63]
theorem dw_tab11 : rtab .any (opsOf Try.f17 11) = dw_T11 := by kernel_rfl
theorem dw_bits11 : waitsOk dw_T11.2 dw_B11 = true := by kernel_rfl
def dw_T31 : Bool × List (List Nat × List Nat) := (true, [([], []), ([0], [0]), ([], []), ([2, 1], [2]), ([], []), ([4, 3], [4]), ([1, 3, 5, 5], [1, 3, 5]), ([], []), ([7, 6, 6, 0, 1, 2, 3, 4, 5, 6, 7], [6, 7])])
def dw_B31 : List Nat := [0, 1, 0, 7, 0, 31, 63, 0, 255]
theorem dw_tab31 : rtab .any (opsOf Try.f17 31) = dw_T31 := by kernel_rfl
theorem dw_bits31 : waitsOk dw_T31.2 dw_B31 = true := by kernel_rfl
section
variable {P : Program} {ops : Array Oper} {Q : Exit → Act → World → Prop}
theorem box_step {o : Oper} {W : World} {act : Act} {K : Act → World → Prop} {N : Tmp} (hw : Region.wanted o (yielded ops act.tmps) = true) (hd : o.dst = some N) {cs : Array Value} {t : TypeId}
    (hrun : (execOp act.eval o).run P W = .ok (.value (.pointer (some ⟨W.heap.size, 0, none⟩))) (W.alloc (.cells cs t (0, 0))))
    (h : ∀ g, g = W.heap.size → ∀ w1, w1.heap[g]? = some (.cells cs t (0, 0)) → Below W.heap.size W w1 → K (act.put (some N) (.pointer (some ⟨g, 0, none⟩))) w1) : if Region.wanted o (yielded ops act.tmps) = true then Oper.wp P o act W K Q else K (act.put (some N) undef) W :=
  value_ hw hd hrun (h _ rfl _ (blk_new W _) (below_alloc (Below.refl _ _) _))
end
theorem kept_mono {w w1 : World} {S T : Nat → Prop} (h : Kept w w1 S) (hm : ∀ k, S k → T k) : Kept w w1 T := ⟨h.1, fun i hi hn => h.2 i hi (fun hs => hn (hm i hs))⟩
section
variable {n : Int} {A A1 A2 B1 B2 : Option Addr} {c c1 c2 e1 e2 : Nat} {l : List S88} {b : Bool} {ss : List S50} {lb : List Bool} {op of dir : Int} {w : World} {d0 : Int} {d1 : Bool} {ds : List S50} {dd : List Bool}
theorem sdo_at (hD : dDone n l b ss lb op of dir = ⟨d0, ⟨d1, ds, dd⟩⟩) (hr : Kd.C k88 w A l.length l) (hc : l.length ≤ c) (hr1 : Kd.C k50 w A1 ss.length ss) (hc1 : ss.length ≤ c1) (hr2 : Kd.C Kd.bool w A2 lb.length lb) (hc2 : lb.length ≤ c2) :
    Calls Try.prog 69 #[.agg #[.int .i64 n, .slice A l.length c], .agg #[.bool b, .slice A1 ss.length c1, .slice A2 lb.length c2], .agg #[.int .i64 op, .int .i64 of, .int .i64 dir]] w fun e w' => ∃ v2_ v3_ : Value, e = .returned (.agg #[.int .i64 d0, .bool d1, v2_, v3_]) ∧ Kd.R k50 50 w' w.heap.size (fun _ => True) v2_ ds ∧ Kd.R Kd.bool 4 w' w.heap.size (fun _ => True) v3_ dd ∧ Below w.heap.size w w' :=
  sdo_any n A c l b A1 c1 ss A2 c2 lb op of dir w hr hc hr1 hc1 hr2 hc2 hD.symm
theorem ido_at (hD : dDone n l b ss lb op of dir = ⟨d0, ⟨d1, ds, dd⟩⟩) (hr : Kd.C k88 w A l.length l) (hc : l.length ≤ c) (hr1 : Kd.C k50 w A1 ss.length ss) (hc1 : ss.length ≤ c1) (hr2 : Kd.C Kd.bool w A2 lb.length lb) (hc2 : lb.length ≤ c2) :
    Calls Try.prog 70 #[.agg #[.int .i64 n, .slice A l.length c], .agg #[.bool b, .slice A1 ss.length c1, .slice A2 lb.length c2], .agg #[.int .i64 op, .int .i64 of, .int .i64 dir]] w fun e w' => ∃ v2_ v3_ : Value, e = .returned (.agg #[.int .i64 d0, .bool d1, v2_, v3_]) ∧ Kd.R k50 50 w' w.heap.size (fun _ => True) v2_ ds ∧ Kd.R Kd.bool 4 w' w.heap.size (fun _ => True) v3_ dd ∧ Below w.heap.size w w' :=
  ido_any n A c l b A1 c1 ss A2 c2 lb op of dir w hr hc hr1 hc1 hr2 hc2 hD.symm
theorem eqD_at (h1 : ds.length ≤ 1048576) (h2 : dd.length ≤ 1048576) (hr : Kd.C k50 w A1 ds.length ds) (hc : ds.length ≤ c1) (hr2 : Kd.C Kd.bool w A2 dd.length dd) (hc2 : dd.length ≤ c2) (hq : Kd.C k50 w B1 ds.length ds) (he : ds.length ≤ e1) (hq2 : Kd.C Kd.bool w B2 dd.length dd) (he2 : dd.length ≤ e2) :
    Calls Try.prog 71 #[.agg #[.int .i64 d0, .bool d1, .slice A1 ds.length c1, .slice A2 dd.length c2], .agg #[.int .i64 d0, .bool d1, .slice B1 ds.length e1, .slice B2 dd.length e2]] w fun e w' => e = .returned (.bool true) ∧ Below w.heap.size w w' := by
  obtain ⟨k, h⟩ := (eqDone_ev ⟨d0, ⟨d1, ds, dd⟩⟩ h1 h2).rounds
  exact laws_eqDone.calls k d0 d1 A1 c1 ds A2 c2 dd d0 d1 B1 e1 ds B2 e2 dd true w hr hc hr2 hc2 hq he hq2 he2 h
theorem heldD_at {n1 n2 : Nat} {b0 b1 : Nat} {ok0 ok1 : Nat → Prop} {mm : Int} (hmm : mm = 1 + 5 * (n1 : Int) + (n2 : Int)) (h1 : n1 ≤ 1048576) (h2 : n2 ≤ 1048576) (hr : Kd.R k50 50 w b0 ok0 (.slice A1 n1 c1) (marks mkS 5 1 n1)) (hr2 : Kd.R Kd.bool 4 w b1 ok1 (.slice A2 n2 c2) (marks mkB 1 (1 + 5 * (n1 : Int)) n2)) :
    Calls Try.prog 73 #[.agg #[.int .i64 d0, .bool d1, .slice A1 n1 c1, .slice A2 n2 c2], .int .i64 1] w fun e w' => e = .returned (.int .i64 mm) ∧ Below w.heap.size w w' := by
  subst hmm
  obtain ⟨k, h⟩ := (show Ev (fun k => laws_heldDone.f k d0 d1 (marks mkS 5 1 n1) (marks mkB 1 (1 + 5 * (n1 : Int)) n2) 1) (1 + 5 * (n1 : Int) + (n2 : Int)) from by
    unfold laws_heldDone.f
    exact Ev.bind (heldState_ev d1 n1 n2 1 (by omega) (by omega)) (Ev.ite_neg (by omega) (Ev.now _))).rounds
  have q1 := Kd.R_reads' hr
  have q2 := Kd.R_reads' hr2
  have := laws_heldDone.calls k d0 d1 A1 c1 (marks mkS 5 1 n1) A2 c2 (marks mkB 1 (1 + 5 * (n1 : Int)) n2) 1 _ w q1.2.2 (by rw [← q1.1]; exact q1.2.1) q2.2.2 (by rw [← q2.1]; exact q2.2.1) h
  rw [← q1.1, ← q2.1] at this
  exact this
theorem markDn_at {w0 : World} {P : Nat → Prop} {v2 v3 : Value} {mm : Int} (hmm : mm = 1 + 5 * (ds.length : Int) + (dd.length : Int)) (h1 : ds.length ≤ 1048576) (h2 : dd.length ≤ 1048576) (hB : Below w0.heap.size w0 w) (ho : Kd.R k50 50 w w0.heap.size P v2 ds) (ho2 : Kd.R Kd.bool 4 w w0.heap.size P v3 dd) :
    Calls Try.prog 72 #[.agg #[.int .i64 d0, .bool d1, v2, v3], .int .i64 1] w fun e w' => e = .returned (.int .i64 mm) ∧ Kd.R k50 50 w' w0.heap.size (fun _ => True) v2 (marks mkS 5 1 ds.length) ∧ Kd.R Kd.bool 4 w' w0.heap.size (fun _ => True) v3 (marks mkB 1 (1 + 5 * (ds.length : Int)) dd.length) ∧ Below w0.heap.size w0 w' ∧ Kept w w' P := by
  subst hmm
  obtain ⟨k, h⟩ := (show Ev (fun k => laws_markDone.f k d0 d1 ds dd 1) (1 + 5 * (ds.length : Int) + (dd.length : Int), marks mkS 5 1 ds.length, marks mkB 1 (1 + 5 * (ds.length : Int)) dd.length) from by
    unfold laws_markDone.f
    exact Ev.bind (markState_ev d1 ds dd 1 (by omega) (by omega)) (Ev.now _)).rounds
  refine (laws_markDone.calls k d0 d1 P v2 ds P v3 dd 1 _ _ _ w0 w hB ho ho2 h).mono ?_
  rintro e w' ⟨q0, q1, q2, q3, q4⟩
  exact ⟨q0, Kd.R_mono q1 (fun _ _ => trivial), Kd.R_mono q2 (fun _ _ => trivial), q3, kept_mono q4 (fun _ h => h.elim id id)⟩
end
set_option maxHeartbeats 32000000 in
set_option maxRecDepth 100000 in
theorem too1 (n : Int) (A : Option Addr) (c : Nat) (l : List S160) (b : Bool) (A1 : Option Addr) (c1 : Nat) (ls : List S169) (A2 : Option Addr) (c2 : Nat) (lb : List Bool) (op of dir : Int) (w : World) (hr : Kd.C k160 w A l.length l) (hc : l.length ≤ c) (hr1 : Kd.C k169 w A1 ls.length ls) (hc1 : ls.length ≤ c1) (hr2 : Kd.C Kd.bool w A2 lb.length lb) (hc2 : lb.length ≤ c2) (m1 : Int) (h1 : laws_szLayout.f n l 1048576 = some m1) (hm : m1 < 0) :
    Calls Try.prog 17 #[.agg #[.int .i64 n, .slice A l.length c], .agg #[.bool b, .slice A1 ls.length c1, .slice A2 lb.length c2], .agg #[.int .i64 op, .int .i64 of, .int .i64 dir]] w fun e w' => e = .returned (.bool true) ∧ Below w.heap.size w w' := by
  have HR := Aside0.mk hr
  have HC := Aside0.mk hc
  have HE := Aside0.mk hr1
  have HEC := Aside0.mk hc1
  have HI := Aside0.mk hr2
  have HIC := Aside0.mk hc2
  clear hr hc hr1 hc1 hr2 hc2
  have hmb : decide (m1 < 0) = true := decide_eq_true hm
  have H1 := Aside0.mk h1
  clear h1 hm
  go_enter Try.func17, Try.ntmps17
  go_upto_region 1 with (first | ((with_reducible refine gate_dst (N := 3) rfl ?_); refine box_event ?hg (N := 3) ?hd (cs := #[.int .i64 n, .slice A l.length c]) (t := 25) ?hr ?_; (case hd => rfl); (case hg => rfl); (case hr => first | (go_simp; done) | (go_simp; rfl)); intro gl el w1 kl kb; have Z0 : Aside0 (w.heap.size ≤ w1.heap.size) := ⟨kb.size⟩; have F1 : Aside0 (Below w.heap.size w w1) := ⟨kb⟩; have F2 : Aside0 (w1.heap[gl]? = some (.cells #[.int .i64 n, .slice A l.length c] 25 (0, 0))) := ⟨kl⟩; have EGL : Aside0 (gl = w.heap.size) := ⟨el⟩; have EHL : Aside0 (gl < w1.heap.size) := ⟨blk_lt kl⟩; clear kb kl el) | ((with_reducible refine gate_dst (N := 4) rfl ?_); refine box_event ?hg (N := 4) ?hd (cs := #[.bool b, .slice A1 ls.length c1, .slice A2 lb.length c2]) (t := 77) ?hr ?_; (case hd => rfl); (case hg => rfl); (case hr => first | (go_simp; done) | (go_simp; rfl)); intro gt el w2 kl kb; have Z1 : Aside0 (w1.heap.size ≤ w2.heap.size) := ⟨kb.size⟩; have F3 : Aside0 (Below w.heap.size w w2) := ⟨below_step F1.out kb⟩; clear F1; have F4 : Aside0 (w2.heap[gl]? = some (.cells #[.int .i64 n, .slice A l.length c] 25 (0, 0))) := ⟨blk_below F2.out kb⟩; clear F2; have F5 : Aside0 (w2.heap[gt]? = some (.cells #[.bool b, .slice A1 ls.length c1, .slice A2 lb.length c2] 77 (0, 0))) := ⟨kl⟩; have EGT : Aside0 (gt = w1.heap.size) := ⟨el⟩; have EHT : Aside0 (gt < w2.heap.size) := ⟨blk_lt kl⟩; clear kb kl el) | ((with_reducible refine gate_dst (N := 5) rfl ?_); refine box_event ?hg (N := 5) ?hd (cs := #[.int .i64 op, .int .i64 of, .int .i64 dir]) (t := 54) ?hr ?_; (case hd => rfl); (case hg => rfl); (case hr => first | (go_simp; done) | (go_simp; rfl)); intro ge el w3 kl kb; have Z2 : Aside0 (w2.heap.size ≤ w3.heap.size) := ⟨kb.size⟩; have F6 : Aside0 (Below w.heap.size w w3) := ⟨below_step F3.out kb⟩; clear F3; have F7 : Aside0 (w3.heap[gl]? = some (.cells #[.int .i64 n, .slice A l.length c] 25 (0, 0))) := ⟨blk_below F4.out kb⟩; clear F4; have F8 : Aside0 (w3.heap[gt]? = some (.cells #[.bool b, .slice A1 ls.length c1, .slice A2 lb.length c2] 77 (0, 0))) := ⟨blk_below F5.out kb⟩; clear F5; have F9 : Aside0 (w3.heap[ge]? = some (.cells #[.int .i64 op, .int .i64 of, .int .i64 dir] 54 (0, 0))) := ⟨kl⟩; have EGE : Aside0 (ge = w2.heap.size) := ⟨el⟩; have EHE : Aside0 (ge < w3.heap.size) := ⟨blk_lt kl⟩; clear kb kl el))
  have kl0 : w3.cell? ⟨gl, 0, none⟩ = some (.int .i64 n) := (blk_cell F7.out 0).trans rfl
  have kl1 : w3.cell? ⟨gl, 1, none⟩ = some (.slice A l.length c) := (blk_cell F7.out 1).trans rfl
  go_wp2_with (go_at_call 22; refine (laws_szLayout.calls n A c l 1048576 m1 _ (Kd.C_below HR.out F6.out) HC.out H1.out).mono ?_; rintro e w4 ⟨rfl, hb⟩; have Z3 : Aside0 (w3.heap.size ≤ w4.heap.size) := ⟨hb.size⟩; have F10 : Aside0 (Below w.heap.size w w4) := ⟨below_step F6.out hb⟩; clear F6; have F11 : Aside0 (w4.heap[gl]? = some (.cells #[.int .i64 n, .slice A l.length c] 25 (0, 0))) := ⟨blk_below F7.out hb⟩; clear F7; have F12 : Aside0 (w4.heap[gt]? = some (.cells #[.bool b, .slice A1 ls.length c1, .slice A2 lb.length c2] 77 (0, 0))) := ⟨blk_below F8.out hb⟩; clear F8; have F13 : Aside0 (w4.heap[ge]? = some (.cells #[.int .i64 op, .int .i64 of, .int .i64 dir] 54 (0, 0))) := ⟨blk_below F9.out hb⟩; clear F9; clear hb)
  go_ret
  exact ⟨rfl, F10.out⟩
set_option maxHeartbeats 32000000 in
set_option maxRecDepth 100000 in
theorem too2 (n : Int) (A : Option Addr) (c : Nat) (l : List S160) (b : Bool) (A1 : Option Addr) (c1 : Nat) (ls : List S169) (A2 : Option Addr) (c2 : Nat) (lb : List Bool) (op of dir : Int) (w : World) (hr : Kd.C k160 w A l.length l) (hc : l.length ≤ c) (hr1 : Kd.C k169 w A1 ls.length ls) (hc1 : ls.length ≤ c1) (hr2 : Kd.C Kd.bool w A2 lb.length lb) (hc2 : lb.length ≤ c2) (m1 m2 : Int) (h1 : laws_szLayout.f n l 1048576 = some m1) (hm : 0 ≤ m1) (h2 : laws_szState.f b ls lb m1 = some m2) (hm2 : m2 < 0) :
    Calls Try.prog 17 #[.agg #[.int .i64 n, .slice A l.length c], .agg #[.bool b, .slice A1 ls.length c1, .slice A2 lb.length c2], .agg #[.int .i64 op, .int .i64 of, .int .i64 dir]] w fun e w' => e = .returned (.bool true) ∧ Below w.heap.size w w' := by
  have HR := Aside0.mk hr
  have HC := Aside0.mk hc
  have HE := Aside0.mk hr1
  have HEC := Aside0.mk hc1
  have HI := Aside0.mk hr2
  have HIC := Aside0.mk hc2
  clear hr hc hr1 hc1 hr2 hc2
  have hmb : decide (m1 < 0) = false := decide_eq_false (by omega)
  have hmb2 : decide (m2 < 0) = true := decide_eq_true hm2
  have H1 := Aside0.mk h1
  have H2 := Aside0.mk h2
  clear h1 hm h2 hm2
  go_enter Try.func17, Try.ntmps17
  go_upto_region 1 with (first | ((with_reducible refine gate_dst (N := 3) rfl ?_); refine box_event ?hg (N := 3) ?hd (cs := #[.int .i64 n, .slice A l.length c]) (t := 25) ?hr ?_; (case hd => rfl); (case hg => rfl); (case hr => first | (go_simp; done) | (go_simp; rfl)); intro gl el w1 kl kb; have Z0 : Aside0 (w.heap.size ≤ w1.heap.size) := ⟨kb.size⟩; have F1 : Aside0 (Below w.heap.size w w1) := ⟨kb⟩; have F2 : Aside0 (w1.heap[gl]? = some (.cells #[.int .i64 n, .slice A l.length c] 25 (0, 0))) := ⟨kl⟩; have EGL : Aside0 (gl = w.heap.size) := ⟨el⟩; have EHL : Aside0 (gl < w1.heap.size) := ⟨blk_lt kl⟩; clear kb kl el) | ((with_reducible refine gate_dst (N := 4) rfl ?_); refine box_event ?hg (N := 4) ?hd (cs := #[.bool b, .slice A1 ls.length c1, .slice A2 lb.length c2]) (t := 77) ?hr ?_; (case hd => rfl); (case hg => rfl); (case hr => first | (go_simp; done) | (go_simp; rfl)); intro gt el w2 kl kb; have Z1 : Aside0 (w1.heap.size ≤ w2.heap.size) := ⟨kb.size⟩; have F3 : Aside0 (Below w.heap.size w w2) := ⟨below_step F1.out kb⟩; clear F1; have F4 : Aside0 (w2.heap[gl]? = some (.cells #[.int .i64 n, .slice A l.length c] 25 (0, 0))) := ⟨blk_below F2.out kb⟩; clear F2; have F5 : Aside0 (w2.heap[gt]? = some (.cells #[.bool b, .slice A1 ls.length c1, .slice A2 lb.length c2] 77 (0, 0))) := ⟨kl⟩; have EGT : Aside0 (gt = w1.heap.size) := ⟨el⟩; have EHT : Aside0 (gt < w2.heap.size) := ⟨blk_lt kl⟩; clear kb kl el) | ((with_reducible refine gate_dst (N := 5) rfl ?_); refine box_event ?hg (N := 5) ?hd (cs := #[.int .i64 op, .int .i64 of, .int .i64 dir]) (t := 54) ?hr ?_; (case hd => rfl); (case hg => rfl); (case hr => first | (go_simp; done) | (go_simp; rfl)); intro ge el w3 kl kb; have Z2 : Aside0 (w2.heap.size ≤ w3.heap.size) := ⟨kb.size⟩; have F6 : Aside0 (Below w.heap.size w w3) := ⟨below_step F3.out kb⟩; clear F3; have F7 : Aside0 (w3.heap[gl]? = some (.cells #[.int .i64 n, .slice A l.length c] 25 (0, 0))) := ⟨blk_below F4.out kb⟩; clear F4; have F8 : Aside0 (w3.heap[gt]? = some (.cells #[.bool b, .slice A1 ls.length c1, .slice A2 lb.length c2] 77 (0, 0))) := ⟨blk_below F5.out kb⟩; clear F5; have F9 : Aside0 (w3.heap[ge]? = some (.cells #[.int .i64 op, .int .i64 of, .int .i64 dir] 54 (0, 0))) := ⟨kl⟩; have EGE : Aside0 (ge = w2.heap.size) := ⟨el⟩; have EHE : Aside0 (ge < w3.heap.size) := ⟨blk_lt kl⟩; clear kb kl el))
  have kl0 : w3.cell? ⟨gl, 0, none⟩ = some (.int .i64 n) := (blk_cell F7.out 0).trans rfl
  have kl1 : w3.cell? ⟨gl, 1, none⟩ = some (.slice A l.length c) := (blk_cell F7.out 1).trans rfl
  go_upto_region 5 with (go_at_call 22; refine (laws_szLayout.calls n A c l 1048576 m1 _ (Kd.C_below HR.out F6.out) HC.out H1.out).mono ?_; rintro e w4 ⟨rfl, hb⟩; have Z3 : Aside0 (w3.heap.size ≤ w4.heap.size) := ⟨hb.size⟩; have F10 : Aside0 (Below w.heap.size w w4) := ⟨below_step F6.out hb⟩; clear F6; have F11 : Aside0 (w4.heap[gl]? = some (.cells #[.int .i64 n, .slice A l.length c] 25 (0, 0))) := ⟨blk_below F7.out hb⟩; clear F7; have F12 : Aside0 (w4.heap[gt]? = some (.cells #[.bool b, .slice A1 ls.length c1, .slice A2 lb.length c2] 77 (0, 0))) := ⟨blk_below F8.out hb⟩; clear F8; have F13 : Aside0 (w4.heap[ge]? = some (.cells #[.int .i64 op, .int .i64 of, .int .i64 dir] 54 (0, 0))) := ⟨blk_below F9.out hb⟩; clear F9; clear hb)
  clear kl0 kl1
  have kt0 : w4.cell? ⟨gt, 0, none⟩ = some (.bool b) := (blk_cell F12.out 0).trans rfl
  have kt1 : w4.cell? ⟨gt, 1, none⟩ = some (.slice A1 ls.length c1) := (blk_cell F12.out 1).trans rfl
  have kt2 : w4.cell? ⟨gt, 2, none⟩ = some (.slice A2 lb.length c2) := (blk_cell F12.out 2).trans rfl
  go_wp2_with (go_at_call 55; refine (laws_szState.calls b A1 c1 ls A2 c2 lb m1 m2 _ (Kd.C_below HE.out F10.out) HEC.out (Kd.C_below HI.out F10.out) HIC.out H2.out).mono ?_; rintro e w5 ⟨rfl, hb⟩; have Z4 : Aside0 (w4.heap.size ≤ w5.heap.size) := ⟨hb.size⟩; have F14 : Aside0 (Below w.heap.size w w5) := ⟨below_step F10.out hb⟩; clear F10; have F15 : Aside0 (w5.heap[gl]? = some (.cells #[.int .i64 n, .slice A l.length c] 25 (0, 0))) := ⟨blk_below F11.out hb⟩; clear F11; have F16 : Aside0 (w5.heap[gt]? = some (.cells #[.bool b, .slice A1 ls.length c1, .slice A2 lb.length c2] 77 (0, 0))) := ⟨blk_below F12.out hb⟩; clear F12; have F17 : Aside0 (w5.heap[ge]? = some (.cells #[.int .i64 op, .int .i64 of, .int .i64 dir] 54 (0, 0))) := ⟨blk_below F13.out hb⟩; clear F13; clear hb)
  go_ret
  exact ⟨rfl, F14.out⟩
set_option maxHeartbeats 32000000 in
set_option maxRecDepth 100000 in
theorem whole (n : Int) (A : Option Addr) (c : Nat) (l : List S160) (b : Bool) (A1 : Option Addr) (c1 : Nat) (ls : List S169) (A2 : Option Addr) (c2 : Nat) (lb : List Bool) (op of dir : Int) (w : World) (hr : Kd.C k160 w A l.length l) (hc : l.length ≤ c) (hr1 : Kd.C k169 w A1 ls.length ls) (hc1 : ls.length ≤ c1) (hr2 : Kd.C Kd.bool w A2 lb.length lb) (hc2 : lb.length ≤ c2) (m1 m2 : Int) (h1 : laws_szLayout.f n l 1048576 = some m1) (hm : 0 ≤ m1) (h2 : laws_szState.f b ls lb m1 = some m2) (hm2 : 0 ≤ m2) (lc : List S88) (sc : List S50) (hcl : lc.length ≤ 1048576) (hsl : sc.length ≤ 1048576) (hbl : lb.length ≤ 1048576) (evTL : Ev (fun k => laws_toLayout.f k n l) (n, lc)) (evTS : Ev (fun k => laws_toState.f k b ls lb) (b, sc, lb)) (d0 : Int) (d1 : Bool) (ds : List S50) (dd : List Bool) (hD : dDone n lc b sc lb op of dir = ⟨d0, ⟨d1, ds, dd⟩⟩) (hds : ds.length ≤ 1048576) (hdd : dd.length ≤ 1048576) :
    Calls Try.prog 17 #[.agg #[.int .i64 n, .slice A l.length c], .agg #[.bool b, .slice A1 ls.length c1, .slice A2 lb.length c2], .agg #[.int .i64 op, .int .i64 of, .int .i64 dir]] w fun e w' => e = .returned (.bool true) ∧ Below w.heap.size w w' := by
  have HR := Aside0.mk hr
  have HC := Aside0.mk hc
  have HE := Aside0.mk hr1
  have HEC := Aside0.mk hc1
  have HI := Aside0.mk hr2
  have HIC := Aside0.mk hc2
  clear hr hc hr1 hc1 hr2 hc2
  have hmb : decide (m1 < 0) = false := decide_eq_false (by omega)
  have hmb2 : decide (m2 < 0) = false := decide_eq_false (by omega)
  have H1 := Aside0.mk h1
  have H2 := Aside0.mk h2
  have HD := Aside0.mk hD
  have HDS := Aside0.mk hds
  have HDD := Aside0.mk hdd
  clear h1 hm h2 hm2 hD
  obtain ⟨kTL, hTL⟩ := (evTL).rounds
  have ETL := Aside0.mk hTL
  clear hTL
  obtain ⟨kTS, hTS⟩ := (evTS).rounds
  have ETS := Aside0.mk hTS
  clear hTS
  obtain ⟨kEL, hEL⟩ := (eqLayout_ev n lc hcl).rounds
  have EEL := Aside0.mk hEL
  clear hEL
  obtain ⟨kES, hES⟩ := (eqState_ev b sc lb hsl hbl).rounds
  have EES := Aside0.mk hES
  clear hES
  obtain ⟨kML, hML⟩ := (markLayout_ev n lc 1 (by omega) (by omega)).rounds
  have EML := Aside0.mk hML
  clear hML
  obtain ⟨kMS, hMS⟩ := (markState_ev b sc lb (1 + 2 * (lc.length : Int)) (by omega) (by omega)).rounds
  have EMS := Aside0.mk hMS
  clear hMS
  generalize hk2 : ((1 + 2 * (lc.length : Int)) + 5 * (sc.length : Int) + (lb.length : Int)) = k2 at EMS
  have hk2b : decide (k2 < 0) = false := decide_eq_false (by omega)
  clear hk2
  generalize hk1 : (1 + 2 * (lc.length : Int)) = k1 at EMS EML
  clear hk1
  obtain ⟨mm, hmm⟩ : ∃ mm : Int, mm = (1 + 5 * (ds.length : Int) + (dd.length : Int)) := ⟨_, rfl⟩
  have hmp : decide (mm < 0) = false := decide_eq_false (by omega)
  have hmne : (mm != mm) = false := bne_self_eq_false _
  have HMM := Aside0.mk hmm
  clear hmm hcl hsl hbl evTL evTS hds hdd
  have ETE := Aside0.mk (show laws_toEvent.f op of dir = some (op, of, dir) from rfl)
  go_enter Try.func17, Try.ntmps17
  go_upto_region 1 with (first | ((with_reducible refine gate_dst (N := 3) rfl ?_); refine box_event ?hg (N := 3) ?hd (cs := #[.int .i64 n, .slice A l.length c]) (t := 25) ?hr ?_; (case hd => rfl); (case hg => rfl); (case hr => first | (go_simp; done) | (go_simp; rfl)); intro gl el w1 kl kb; have Z0 : Aside0 (w.heap.size ≤ w1.heap.size) := ⟨kb.size⟩; have F1 : Aside0 (Below w.heap.size w w1) := ⟨kb⟩; have F2 : Aside0 (w1.heap[gl]? = some (.cells #[.int .i64 n, .slice A l.length c] 25 (0, 0))) := ⟨kl⟩; have EGL : Aside0 (gl = w.heap.size) := ⟨el⟩; have EHL : Aside0 (gl < w1.heap.size) := ⟨blk_lt kl⟩; clear kb kl el) | ((with_reducible refine gate_dst (N := 4) rfl ?_); refine box_event ?hg (N := 4) ?hd (cs := #[.bool b, .slice A1 ls.length c1, .slice A2 lb.length c2]) (t := 77) ?hr ?_; (case hd => rfl); (case hg => rfl); (case hr => first | (go_simp; done) | (go_simp; rfl)); intro gt el w2 kl kb; have Z1 : Aside0 (w1.heap.size ≤ w2.heap.size) := ⟨kb.size⟩; have F3 : Aside0 (Below w.heap.size w w2) := ⟨below_step F1.out kb⟩; clear F1; have F4 : Aside0 (w2.heap[gl]? = some (.cells #[.int .i64 n, .slice A l.length c] 25 (0, 0))) := ⟨blk_below F2.out kb⟩; clear F2; have F5 : Aside0 (w2.heap[gt]? = some (.cells #[.bool b, .slice A1 ls.length c1, .slice A2 lb.length c2] 77 (0, 0))) := ⟨kl⟩; have EGT : Aside0 (gt = w1.heap.size) := ⟨el⟩; have EHT : Aside0 (gt < w2.heap.size) := ⟨blk_lt kl⟩; clear kb kl el) | ((with_reducible refine gate_dst (N := 5) rfl ?_); refine box_event ?hg (N := 5) ?hd (cs := #[.int .i64 op, .int .i64 of, .int .i64 dir]) (t := 54) ?hr ?_; (case hd => rfl); (case hg => rfl); (case hr => first | (go_simp; done) | (go_simp; rfl)); intro ge el w3 kl kb; have Z2 : Aside0 (w2.heap.size ≤ w3.heap.size) := ⟨kb.size⟩; have F6 : Aside0 (Below w.heap.size w w3) := ⟨below_step F3.out kb⟩; clear F3; have F7 : Aside0 (w3.heap[gl]? = some (.cells #[.int .i64 n, .slice A l.length c] 25 (0, 0))) := ⟨blk_below F4.out kb⟩; clear F4; have F8 : Aside0 (w3.heap[gt]? = some (.cells #[.bool b, .slice A1 ls.length c1, .slice A2 lb.length c2] 77 (0, 0))) := ⟨blk_below F5.out kb⟩; clear F5; have F9 : Aside0 (w3.heap[ge]? = some (.cells #[.int .i64 op, .int .i64 of, .int .i64 dir] 54 (0, 0))) := ⟨kl⟩; have EGE : Aside0 (ge = w2.heap.size) := ⟨el⟩; have EHE : Aside0 (ge < w3.heap.size) := ⟨blk_lt kl⟩; clear kb kl el))
  have kl0 : w3.cell? ⟨gl, 0, none⟩ = some (.int .i64 n) := (blk_cell F7.out 0).trans rfl
  have kl1 : w3.cell? ⟨gl, 1, none⟩ = some (.slice A l.length c) := (blk_cell F7.out 1).trans rfl
  go_upto_region 5 with (go_at_call 22; refine (laws_szLayout.calls n A c l 1048576 m1 _ (Kd.C_below HR.out F6.out) HC.out H1.out).mono ?_; rintro e w4 ⟨rfl, hb⟩; have Z3 : Aside0 (w3.heap.size ≤ w4.heap.size) := ⟨hb.size⟩; have F10 : Aside0 (Below w.heap.size w w4) := ⟨below_step F6.out hb⟩; clear F6; have F11 : Aside0 (w4.heap[gl]? = some (.cells #[.int .i64 n, .slice A l.length c] 25 (0, 0))) := ⟨blk_below F7.out hb⟩; clear F7; have F12 : Aside0 (w4.heap[gt]? = some (.cells #[.bool b, .slice A1 ls.length c1, .slice A2 lb.length c2] 77 (0, 0))) := ⟨blk_below F8.out hb⟩; clear F8; have F13 : Aside0 (w4.heap[ge]? = some (.cells #[.int .i64 op, .int .i64 of, .int .i64 dir] 54 (0, 0))) := ⟨blk_below F9.out hb⟩; clear F9; clear hb)
  clear kl0 kl1
  have kt0 : w4.cell? ⟨gt, 0, none⟩ = some (.bool b) := (blk_cell F12.out 0).trans rfl
  have kt1 : w4.cell? ⟨gt, 1, none⟩ = some (.slice A1 ls.length c1) := (blk_cell F12.out 1).trans rfl
  have kt2 : w4.cell? ⟨gt, 2, none⟩ = some (.slice A2 lb.length c2) := (blk_cell F12.out 2).trans rfl
  go_upto_region 8 with (go_at_call 55; refine (laws_szState.calls b A1 c1 ls A2 c2 lb m1 m2 _ (Kd.C_below HE.out F10.out) HEC.out (Kd.C_below HI.out F10.out) HIC.out H2.out).mono ?_; rintro e w5 ⟨rfl, hb⟩; have Z4 : Aside0 (w4.heap.size ≤ w5.heap.size) := ⟨hb.size⟩; have F14 : Aside0 (Below w.heap.size w w5) := ⟨below_step F10.out hb⟩; clear F10; have F15 : Aside0 (w5.heap[gl]? = some (.cells #[.int .i64 n, .slice A l.length c] 25 (0, 0))) := ⟨blk_below F11.out hb⟩; clear F11; have F16 : Aside0 (w5.heap[gt]? = some (.cells #[.bool b, .slice A1 ls.length c1, .slice A2 lb.length c2] 77 (0, 0))) := ⟨blk_below F12.out hb⟩; clear F12; have F17 : Aside0 (w5.heap[ge]? = some (.cells #[.int .i64 op, .int .i64 of, .int .i64 dir] 54 (0, 0))) := ⟨blk_below F13.out hb⟩; clear F13; clear hb)
  clear kt0 kt1 kt2
  go_upto_region 8 with fail
  have Z5 : Aside0 (w5.heap.size ≤ w5.drew.heap.size) := ⟨(below_drew1 (Below.refl w5.heap.size w5)).size⟩
  have F18 : Aside0 (Below w.heap.size w w5.drew) := ⟨below_step F14.out (below_drew1 (Below.refl w5.heap.size w5))⟩
  clear F14
  have F19 : Aside0 (w5.drew.heap[gl]? = some (.cells #[.int .i64 n, .slice A l.length c] 25 (0, 0))) := ⟨blk_below F15.out (below_drew1 (Below.refl w5.heap.size w5))⟩
  clear F15
  have F20 : Aside0 (w5.drew.heap[gt]? = some (.cells #[.bool b, .slice A1 ls.length c1, .slice A2 lb.length c2] 77 (0, 0))) := ⟨blk_below F16.out (below_drew1 (Below.refl w5.heap.size w5))⟩
  clear F16
  have F21 : Aside0 (w5.drew.heap[ge]? = some (.cells #[.int .i64 op, .int .i64 of, .int .i64 dir] 54 (0, 0))) := ⟨blk_below F17.out (below_drew1 (Below.refl w5.heap.size w5))⟩
  clear F17
  refine start_ (n := 9) (S := fun w' => w'.cell? ⟨gl, 0, none⟩ = some (.int .i64 n) ∧ w'.cell? ⟨gl, 1, none⟩ = some (.slice A l.length c) ∧ w'.cell? ⟨gt, 0, none⟩ = some (.bool b) ∧ w'.cell? ⟨gt, 1, none⟩ = some (.slice A1 ls.length c1) ∧ w'.cell? ⟨gt, 2, none⟩ = some (.slice A2 lb.length c2) ∧ w'.cell? ⟨ge, 0, none⟩ = some (.int .i64 op) ∧ w'.cell? ⟨ge, 1, none⟩ = some (.int .i64 of) ∧ w'.cell? ⟨ge, 2, none⟩ = some (.int .i64 dir)) (ds := [8]) #[false, false, false, false, false, false, false, false, false] (by kernel_rfl) rfl rfl ⟨(blk_cell F19.out 0).trans rfl, (blk_cell F19.out 1).trans rfl, (blk_cell F20.out 0).trans rfl, (blk_cell F20.out 1).trans rfl, (blk_cell F20.out 2).trans rfl, (blk_cell F21.out 0).trans rfl, (blk_cell F21.out 1).trans rfl, (blk_cell F21.out 2).trans rfl⟩ (fun hHeld => ?_)
  refine with_tabW dw_tab8 dw_bits8 (fun HT_ HW_ => ?_)
  generalize w5.drew = q8 at F18 F19 F20 F21 Z5 hHeld ⊢
  have BW := Aside0.mk (Below.refl q8.heap.size q8)
  refine take_ (i := 0) (N := some 26) (v := ?_) (a' := ?_) #[true, false, false, false, false, false, false, false, false] rfl rfl (take_ofW HT_.out HW_.out (by kernel_rfl)) (fun _ _ _ h => h) (Or.inl ⟨by rfl, ?_⟩) hHeld ?_ ?_
  rotate_left
  · rintro w' ⟨s0, s1, s2, s3, s4, s5, s6, s7⟩
    go_simp
    with_reducible rfl
  rotate_left
  · simp only [Act.put, List.setIfInBounds_toArray, List.set_cons_zero, List.set_cons_succ, i64_w, i32_w]
    rfl
  refine take_ (i := 2) (N := some 28) (v := ?_) (a' := ?_) #[true, false, true, false, false, false, false, false, false] rfl rfl (take_ofW HT_.out HW_.out (by kernel_rfl)) (fun _ _ _ h => h) (Or.inl ⟨by rfl, ?_⟩) hHeld ?_ ?_
  rotate_left
  · rintro w' ⟨s0, s1, s2, s3, s4, s5, s6, s7⟩
    go_simp
    with_reducible rfl
  rotate_left
  · simp only [Act.put, List.setIfInBounds_toArray, List.set_cons_zero, List.set_cons_succ, i64_w, i32_w]
    rfl
  refine take_ (i := 4) (N := some 30) (v := ?_) (a' := ?_) #[true, false, true, false, true, false, false, false, false] rfl rfl (take_ofW HT_.out HW_.out (by kernel_rfl)) (fun _ _ _ h => h) (Or.inl ⟨by rfl, ?_⟩) hHeld ?_ ?_
  rotate_left
  · rintro w' ⟨s0, s1, s2, s3, s4, s5, s6, s7⟩
    go_simp
    with_reducible rfl
  rotate_left
  · simp only [Act.put, List.setIfInBounds_toArray, List.set_cons_zero, List.set_cons_succ, i64_w, i32_w]
    rfl
  refine join_ (σ := Nat × Value × Value × Value × Value × Value) 1 #[true, true, true, true, true, true, true, true, false] (fun s_ => [(27, .agg #[.int .i64 n, s_.2.2.2.1]), (29, .agg #[.bool b, s_.2.2.2.2.1, s_.2.2.2.2.2]), (31, .agg #[.int .i64 op, .int .i64 of, .int .i64 dir]), (32, .agg #[.int .i64 d0, .bool d1, s_.2.1, s_.2.2.1]), (8, .pointer (some ⟨s_.1, 0, none⟩))]) (fun s_ w' => (w'.cell? ⟨gl, 0, none⟩ = some (.int .i64 n) ∧ w'.cell? ⟨gl, 1, none⟩ = some (.slice A l.length c) ∧ w'.cell? ⟨gt, 0, none⟩ = some (.bool b) ∧ w'.cell? ⟨gt, 1, none⟩ = some (.slice A1 ls.length c1) ∧ w'.cell? ⟨gt, 2, none⟩ = some (.slice A2 lb.length c2) ∧ w'.cell? ⟨ge, 0, none⟩ = some (.int .i64 op) ∧ w'.cell? ⟨ge, 1, none⟩ = some (.int .i64 of) ∧ w'.cell? ⟨ge, 2, none⟩ = some (.int .i64 dir)) ∧ w'.heap[s_.1]? = some (.cells #[.int .i64 0, .bool false, .slice none 0 0, .slice none 0 0] 48 (0, 0)) ∧ q8.heap.size ≤ s_.1 ∧ Kd.R k50 50 w' q8.heap.size (fun _ => True) s_.2.1 ds ∧ Kd.R Kd.bool 4 w' q8.heap.size (fun _ => True) s_.2.2.1 dd ∧ Below q8.heap.size q8 w') ?_ ?_
  rotate_left
  · intro hCont
    refine two_ (i := 1) (j := 7) (Ni := some 27) (Nj := some 8) #[true, true, true, false, true, false, false, false, false] #[true, false, true, false, true, false, false, true, false] rfl rfl rfl rfl (two_of HT_.out (by kernel_rfl)) (by decide) (by decide) (fun K hK => ?_) (fun K hK => ?_)
    · skip
      refine goes_ Try.func24 (by kernel_rfl) rfl #[.agg #[.int .i64 n, .slice A l.length c]] (by rfl) rfl rfl (by (try simp only [List.map_toArray, List.map_cons, List.map_nil]); first | done | rfl) ?_
      with_reducible refine (laws_toLayout.calls kTL n A c l n lc _ (Kd.C_below HR.out (below_step F18.out BW.out)) HC.out ETL.out).mono ?_
      rintro e wx ⟨v, rfl, ho, hb⟩
      obtain ⟨At, ct, rfl⟩ := Kd.R_slice ho
      refine ⟨_, rfl, ?_⟩
      have RT := Aside0.mk ho
      have BW := Aside0.mk (below_step BW.out hb)
      refine hK.out _ _ ⟨pw_cell_below hb hHeld.1, pw_cell_below hb hHeld.2.1, pw_cell_below hb hHeld.2.2.1, pw_cell_below hb hHeld.2.2.2.1, pw_cell_below hb hHeld.2.2.2.2.1, pw_cell_below hb hHeld.2.2.2.2.2.1, pw_cell_below hb hHeld.2.2.2.2.2.2.1, pw_cell_below hb hHeld.2.2.2.2.2.2.2⟩ (fun hHeld => ?_)
      clear hb ho
      clear hK K
      refine norm_ (a' := ?_) ?_ ?_
      rotate_left
      · show Act.put _ (some 27) _ = _
        simp only [Act.put, List.setIfInBounds_toArray, List.set_cons_zero, List.set_cons_succ, i64_w, i32_w]
        rfl
      refine two_ (i := 3) (j := 7) (Ni := some 29) (Nj := some 8) #[true, true, true, true, true, false, false, false, false] #[true, true, true, false, true, false, false, true, false] rfl rfl rfl rfl (two_of HT_.out (by kernel_rfl)) (by decide) (by decide) (fun K hK => ?_) (fun K hK => ?_)
      · skip
        refine goes_ Try.func57 (by kernel_rfl) rfl #[.agg #[.bool b, .slice A1 ls.length c1, .slice A2 lb.length c2]] (by rfl) rfl rfl (by (try simp only [List.map_toArray, List.map_cons, List.map_nil]); first | done | rfl) ?_
        with_reducible refine (laws_toState.calls kTS b A1 c1 ls A2 c2 lb b sc lb _ (Kd.C_below HE.out (below_step F18.out BW.out)) HEC.out (Kd.C_below HI.out (below_step F18.out BW.out)) HIC.out ETS.out).mono ?_
        rintro e wx ⟨v, v', rfl, ho, ho', hb⟩
        obtain ⟨As, cs, rfl⟩ := Kd.R_slice ho
        obtain ⟨Ad, cd, rfl⟩ := Kd.R_slice ho'
        refine ⟨_, rfl, ?_⟩
        have RT := Aside0.mk (Kd.R_below RT.out hb)
        have RS := Aside0.mk ho
        have RD := Aside0.mk ho'
        have BW := Aside0.mk (below_step BW.out hb)
        refine hK.out _ _ ⟨pw_cell_below hb hHeld.1, pw_cell_below hb hHeld.2.1, pw_cell_below hb hHeld.2.2.1, pw_cell_below hb hHeld.2.2.2.1, pw_cell_below hb hHeld.2.2.2.2.1, pw_cell_below hb hHeld.2.2.2.2.2.1, pw_cell_below hb hHeld.2.2.2.2.2.2.1, pw_cell_below hb hHeld.2.2.2.2.2.2.2⟩ (fun hHeld => ?_)
        clear hb ho ho'
        clear hK K
        refine norm_ (a' := ?_) ?_ ?_
        rotate_left
        · show Act.put _ (some 29) _ = _
          simp only [Act.put, List.setIfInBounds_toArray, List.set_cons_zero, List.set_cons_succ, i64_w, i32_w]
          rfl
        refine two_ (i := 5) (j := 7) (Ni := some 31) (Nj := some 8) #[true, true, true, true, true, true, false, false, false] #[true, true, true, true, true, false, false, true, false] rfl rfl rfl rfl (two_of HT_.out (by kernel_rfl)) (by decide) (by decide) (fun K hK => ?_) (fun K hK => ?_)
        · skip
          refine goes_ Try.func35 (by kernel_rfl) rfl #[.agg #[.int .i64 op, .int .i64 of, .int .i64 dir]] (by rfl) rfl rfl (by (try simp only [List.map_toArray, List.map_cons, List.map_nil]); first | done | rfl) ?_
          with_reducible refine (laws_toEvent.calls op of dir op of dir _ ETE.out).mono ?_
          rintro e wx ⟨rfl, hb⟩
          refine ⟨_, rfl, ?_⟩
          have RT := Aside0.mk (Kd.R_below RT.out hb)
          have RS := Aside0.mk (Kd.R_below RS.out hb)
          have RD := Aside0.mk (Kd.R_below RD.out hb)
          have BW := Aside0.mk (below_step BW.out hb)
          refine hK.out _ _ ⟨pw_cell_below hb hHeld.1, pw_cell_below hb hHeld.2.1, pw_cell_below hb hHeld.2.2.1, pw_cell_below hb hHeld.2.2.2.1, pw_cell_below hb hHeld.2.2.2.2.1, pw_cell_below hb hHeld.2.2.2.2.2.1, pw_cell_below hb hHeld.2.2.2.2.2.2.1, pw_cell_below hb hHeld.2.2.2.2.2.2.2⟩ (fun hHeld => ?_)
          clear hb
          clear hK K
          refine norm_ (a' := ?_) ?_ ?_
          rotate_left
          · show Act.put _ (some 31) _ = _
            simp only [Act.put, List.setIfInBounds_toArray, List.set_cons_zero, List.set_cons_succ, i64_w, i32_w]
            rfl
          refine two_ (i := 6) (j := 7) (Ni := some 32) (Nj := some 8) #[true, true, true, true, true, true, true, false, false] #[true, true, true, true, true, true, false, true, false] rfl rfl rfl rfl (two_of HT_.out (by kernel_rfl)) (by decide) (by decide) (fun K hK => ?_) (fun K hK => ?_)
          · skip
            refine goes_ Try.func69 (by kernel_rfl) rfl #[.agg #[.int .i64 n, .slice At lc.length ct], .agg #[.bool b, .slice As sc.length cs, .slice Ad lb.length cd], .agg #[.int .i64 op, .int .i64 of, .int .i64 dir]] (by rfl) rfl rfl (by (try simp only [List.map_toArray, List.map_cons, List.map_nil]); first | done | rfl) ?_
            with_reducible refine (sdo_at HD.out (Kd.R_reads' RT.out).2.2 (Kd.R_reads' RT.out).2.1 (Kd.R_reads' RS.out).2.2 (Kd.R_reads' RS.out).2.1 (Kd.R_reads' RD.out).2.2 (Kd.R_reads' RD.out).2.1).mono ?_
            rintro e wx ⟨v, v', rfl, ho, ho', hb⟩
            refine ⟨_, rfl, ?_⟩
            have RT := Aside0.mk (Kd.R_below RT.out hb)
            have RS := Aside0.mk (Kd.R_below RS.out hb)
            have RD := Aside0.mk (Kd.R_below RD.out hb)
            have R8 := Aside0.mk (Kd.R_lower ho BW.out.size)
            have R9 := Aside0.mk (Kd.R_lower ho' BW.out.size)
            have BW := Aside0.mk (below_step BW.out hb)
            refine hK.out _ _ ⟨pw_cell_below hb hHeld.1, pw_cell_below hb hHeld.2.1, pw_cell_below hb hHeld.2.2.1, pw_cell_below hb hHeld.2.2.2.1, pw_cell_below hb hHeld.2.2.2.2.1, pw_cell_below hb hHeld.2.2.2.2.2.1, pw_cell_below hb hHeld.2.2.2.2.2.2.1, pw_cell_below hb hHeld.2.2.2.2.2.2.2⟩ (fun hHeld => ?_)
            clear hb ho ho'
            clear hK K
            refine norm_ (a' := ?_) ?_ ?_
            rotate_left
            · show Act.put _ (some 32) _ = _
              simp only [Act.put, List.setIfInBounds_toArray, List.set_cons_zero, List.set_cons_succ, i64_w, i32_w]
              rfl
            refine one_ (i := 7) (N := some 8) #[true, true, true, true, true, true, true, true, false] rfl rfl (one_of HT_.out (by kernel_rfl)) (by decide) (fun K hK => ?_)
            refine box_step (N := 8) ?hg ?hd (cs := #[.int .i64 0, .bool false, .slice none 0 0, .slice none 0 0]) (t := 48) ?hr ?_; (case hd => rfl); (case hg => rfl); (case hr => first | (go_simp; done) | (go_simp; rfl))
            intro gb eb wx kb hb
            have RT := Aside0.mk (Kd.R_below RT.out hb)
            have RS := Aside0.mk (Kd.R_below RS.out hb)
            have RD := Aside0.mk (Kd.R_below RD.out hb)
            have R8 := Aside0.mk (Kd.R_below R8.out hb)
            have R9 := Aside0.mk (Kd.R_below R9.out hb)
            have KB := Aside0.mk kb
            have GB := Aside0.mk (show q8.heap.size ≤ gb by rw [eb]; exact BW.out.size)
            have BW := Aside0.mk (below_step BW.out hb)
            refine hK.out _ _ ⟨pw_cell_below hb hHeld.1, pw_cell_below hb hHeld.2.1, pw_cell_below hb hHeld.2.2.1, pw_cell_below hb hHeld.2.2.2.1, pw_cell_below hb hHeld.2.2.2.2.1, pw_cell_below hb hHeld.2.2.2.2.2.1, pw_cell_below hb hHeld.2.2.2.2.2.2.1, pw_cell_below hb hHeld.2.2.2.2.2.2.2⟩ (fun hHeld => ?_)
            clear eb kb hb
            clear hK K
            refine norm_ (a' := ?_) ?_ ?_
            rotate_left
            · show Act.put _ (some 8) _ = _
              simp only [Act.put, List.setIfInBounds_toArray, List.set_cons_zero, List.set_cons_succ, i64_w, i32_w]
              rfl
            exact norm_ (by simp only [putAll, Act.put, List.setIfInBounds_toArray, List.set_cons_zero, List.set_cons_succ] <;> rfl) (hCont (gb, _, _, _, _, _) _ ⟨hHeld, KB.out, GB.out, R8.out, R9.out, BW.out⟩)
          · skip
            refine box_step (N := 8) ?hg ?hd (cs := #[.int .i64 0, .bool false, .slice none 0 0, .slice none 0 0]) (t := 48) ?hr ?_; (case hd => rfl); (case hg => rfl); (case hr => first | (go_simp; done) | (go_simp; rfl))
            intro gb eb wx kb hb
            have RT := Aside0.mk (Kd.R_below RT.out hb)
            have RS := Aside0.mk (Kd.R_below RS.out hb)
            have RD := Aside0.mk (Kd.R_below RD.out hb)
            have KB := Aside0.mk kb
            have GB := Aside0.mk (show q8.heap.size ≤ gb by rw [eb]; exact BW.out.size)
            have BW := Aside0.mk (below_step BW.out hb)
            refine hK.out _ _ ⟨pw_cell_below hb hHeld.1, pw_cell_below hb hHeld.2.1, pw_cell_below hb hHeld.2.2.1, pw_cell_below hb hHeld.2.2.2.1, pw_cell_below hb hHeld.2.2.2.2.1, pw_cell_below hb hHeld.2.2.2.2.2.1, pw_cell_below hb hHeld.2.2.2.2.2.2.1, pw_cell_below hb hHeld.2.2.2.2.2.2.2⟩ (fun hHeld => ?_)
            clear eb kb hb
            clear hK K
            refine norm_ (a' := ?_) ?_ ?_
            rotate_left
            · show Act.put _ (some 8) _ = _
              simp only [Act.put, List.setIfInBounds_toArray, List.set_cons_zero, List.set_cons_succ, i64_w, i32_w]
              rfl
            refine one_ (i := 6) (N := some 32) #[true, true, true, true, true, true, true, true, false] rfl rfl (one_of HT_.out (by kernel_rfl)) (by decide) (fun K hK => ?_)
            refine goes_ Try.func69 (by kernel_rfl) rfl #[.agg #[.int .i64 n, .slice At lc.length ct], .agg #[.bool b, .slice As sc.length cs, .slice Ad lb.length cd], .agg #[.int .i64 op, .int .i64 of, .int .i64 dir]] (by rfl) rfl rfl (by (try simp only [List.map_toArray, List.map_cons, List.map_nil]); first | done | rfl) ?_
            with_reducible refine (sdo_at HD.out (Kd.R_reads' RT.out).2.2 (Kd.R_reads' RT.out).2.1 (Kd.R_reads' RS.out).2.2 (Kd.R_reads' RS.out).2.1 (Kd.R_reads' RD.out).2.2 (Kd.R_reads' RD.out).2.1).mono ?_
            rintro e wx ⟨v, v', rfl, ho, ho', hb⟩
            refine ⟨_, rfl, ?_⟩
            have RT := Aside0.mk (Kd.R_below RT.out hb)
            have RS := Aside0.mk (Kd.R_below RS.out hb)
            have RD := Aside0.mk (Kd.R_below RD.out hb)
            have KB := Aside0.mk (blk_below KB.out hb)
            have R8 := Aside0.mk (Kd.R_lower ho BW.out.size)
            have R9 := Aside0.mk (Kd.R_lower ho' BW.out.size)
            have BW := Aside0.mk (below_step BW.out hb)
            refine hK.out _ _ ⟨pw_cell_below hb hHeld.1, pw_cell_below hb hHeld.2.1, pw_cell_below hb hHeld.2.2.1, pw_cell_below hb hHeld.2.2.2.1, pw_cell_below hb hHeld.2.2.2.2.1, pw_cell_below hb hHeld.2.2.2.2.2.1, pw_cell_below hb hHeld.2.2.2.2.2.2.1, pw_cell_below hb hHeld.2.2.2.2.2.2.2⟩ (fun hHeld => ?_)
            clear hb ho ho'
            clear hK K
            refine norm_ (a' := ?_) ?_ ?_
            rotate_left
            · show Act.put _ (some 32) _ = _
              simp only [Act.put, List.setIfInBounds_toArray, List.set_cons_zero, List.set_cons_succ, i64_w, i32_w]
              rfl
            exact norm_ (by simp only [putAll, Act.put, List.setIfInBounds_toArray, List.set_cons_zero, List.set_cons_succ] <;> rfl) (hCont (gb, _, _, _, _, _) _ ⟨hHeld, KB.out, GB.out, R8.out, R9.out, BW.out⟩)
        · skip
          refine box_step (N := 8) ?hg ?hd (cs := #[.int .i64 0, .bool false, .slice none 0 0, .slice none 0 0]) (t := 48) ?hr ?_; (case hd => rfl); (case hg => rfl); (case hr => first | (go_simp; done) | (go_simp; rfl))
          intro gb eb wx kb hb
          have RT := Aside0.mk (Kd.R_below RT.out hb)
          have RS := Aside0.mk (Kd.R_below RS.out hb)
          have RD := Aside0.mk (Kd.R_below RD.out hb)
          have KB := Aside0.mk kb
          have GB := Aside0.mk (show q8.heap.size ≤ gb by rw [eb]; exact BW.out.size)
          have BW := Aside0.mk (below_step BW.out hb)
          refine hK.out _ _ ⟨pw_cell_below hb hHeld.1, pw_cell_below hb hHeld.2.1, pw_cell_below hb hHeld.2.2.1, pw_cell_below hb hHeld.2.2.2.1, pw_cell_below hb hHeld.2.2.2.2.1, pw_cell_below hb hHeld.2.2.2.2.2.1, pw_cell_below hb hHeld.2.2.2.2.2.2.1, pw_cell_below hb hHeld.2.2.2.2.2.2.2⟩ (fun hHeld => ?_)
          clear eb kb hb
          clear hK K
          refine norm_ (a' := ?_) ?_ ?_
          rotate_left
          · show Act.put _ (some 8) _ = _
            simp only [Act.put, List.setIfInBounds_toArray, List.set_cons_zero, List.set_cons_succ, i64_w, i32_w]
            rfl
          refine one_ (i := 5) (N := some 31) #[true, true, true, true, true, true, false, true, false] rfl rfl (one_of HT_.out (by kernel_rfl)) (by decide) (fun K hK => ?_)
          refine goes_ Try.func35 (by kernel_rfl) rfl #[.agg #[.int .i64 op, .int .i64 of, .int .i64 dir]] (by rfl) rfl rfl (by (try simp only [List.map_toArray, List.map_cons, List.map_nil]); first | done | rfl) ?_
          with_reducible refine (laws_toEvent.calls op of dir op of dir _ ETE.out).mono ?_
          rintro e wx ⟨rfl, hb⟩
          refine ⟨_, rfl, ?_⟩
          have RT := Aside0.mk (Kd.R_below RT.out hb)
          have RS := Aside0.mk (Kd.R_below RS.out hb)
          have RD := Aside0.mk (Kd.R_below RD.out hb)
          have KB := Aside0.mk (blk_below KB.out hb)
          have BW := Aside0.mk (below_step BW.out hb)
          refine hK.out _ _ ⟨pw_cell_below hb hHeld.1, pw_cell_below hb hHeld.2.1, pw_cell_below hb hHeld.2.2.1, pw_cell_below hb hHeld.2.2.2.1, pw_cell_below hb hHeld.2.2.2.2.1, pw_cell_below hb hHeld.2.2.2.2.2.1, pw_cell_below hb hHeld.2.2.2.2.2.2.1, pw_cell_below hb hHeld.2.2.2.2.2.2.2⟩ (fun hHeld => ?_)
          clear hb
          clear hK K
          refine norm_ (a' := ?_) ?_ ?_
          rotate_left
          · show Act.put _ (some 31) _ = _
            simp only [Act.put, List.setIfInBounds_toArray, List.set_cons_zero, List.set_cons_succ, i64_w, i32_w]
            rfl
          refine one_ (i := 6) (N := some 32) #[true, true, true, true, true, true, true, true, false] rfl rfl (one_of HT_.out (by kernel_rfl)) (by decide) (fun K hK => ?_)
          refine goes_ Try.func69 (by kernel_rfl) rfl #[.agg #[.int .i64 n, .slice At lc.length ct], .agg #[.bool b, .slice As sc.length cs, .slice Ad lb.length cd], .agg #[.int .i64 op, .int .i64 of, .int .i64 dir]] (by rfl) rfl rfl (by (try simp only [List.map_toArray, List.map_cons, List.map_nil]); first | done | rfl) ?_
          with_reducible refine (sdo_at HD.out (Kd.R_reads' RT.out).2.2 (Kd.R_reads' RT.out).2.1 (Kd.R_reads' RS.out).2.2 (Kd.R_reads' RS.out).2.1 (Kd.R_reads' RD.out).2.2 (Kd.R_reads' RD.out).2.1).mono ?_
          rintro e wx ⟨v, v', rfl, ho, ho', hb⟩
          refine ⟨_, rfl, ?_⟩
          have RT := Aside0.mk (Kd.R_below RT.out hb)
          have RS := Aside0.mk (Kd.R_below RS.out hb)
          have RD := Aside0.mk (Kd.R_below RD.out hb)
          have KB := Aside0.mk (blk_below KB.out hb)
          have R8 := Aside0.mk (Kd.R_lower ho BW.out.size)
          have R9 := Aside0.mk (Kd.R_lower ho' BW.out.size)
          have BW := Aside0.mk (below_step BW.out hb)
          refine hK.out _ _ ⟨pw_cell_below hb hHeld.1, pw_cell_below hb hHeld.2.1, pw_cell_below hb hHeld.2.2.1, pw_cell_below hb hHeld.2.2.2.1, pw_cell_below hb hHeld.2.2.2.2.1, pw_cell_below hb hHeld.2.2.2.2.2.1, pw_cell_below hb hHeld.2.2.2.2.2.2.1, pw_cell_below hb hHeld.2.2.2.2.2.2.2⟩ (fun hHeld => ?_)
          clear hb ho ho'
          clear hK K
          refine norm_ (a' := ?_) ?_ ?_
          rotate_left
          · show Act.put _ (some 32) _ = _
            simp only [Act.put, List.setIfInBounds_toArray, List.set_cons_zero, List.set_cons_succ, i64_w, i32_w]
            rfl
          exact norm_ (by simp only [putAll, Act.put, List.setIfInBounds_toArray, List.set_cons_zero, List.set_cons_succ] <;> rfl) (hCont (gb, _, _, _, _, _) _ ⟨hHeld, KB.out, GB.out, R8.out, R9.out, BW.out⟩)
      · skip
        refine box_step (N := 8) ?hg ?hd (cs := #[.int .i64 0, .bool false, .slice none 0 0, .slice none 0 0]) (t := 48) ?hr ?_; (case hd => rfl); (case hg => rfl); (case hr => first | (go_simp; done) | (go_simp; rfl))
        intro gb eb wx kb hb
        have RT := Aside0.mk (Kd.R_below RT.out hb)
        have KB := Aside0.mk kb
        have GB := Aside0.mk (show q8.heap.size ≤ gb by rw [eb]; exact BW.out.size)
        have BW := Aside0.mk (below_step BW.out hb)
        refine hK.out _ _ ⟨pw_cell_below hb hHeld.1, pw_cell_below hb hHeld.2.1, pw_cell_below hb hHeld.2.2.1, pw_cell_below hb hHeld.2.2.2.1, pw_cell_below hb hHeld.2.2.2.2.1, pw_cell_below hb hHeld.2.2.2.2.2.1, pw_cell_below hb hHeld.2.2.2.2.2.2.1, pw_cell_below hb hHeld.2.2.2.2.2.2.2⟩ (fun hHeld => ?_)
        clear eb kb hb
        clear hK K
        refine norm_ (a' := ?_) ?_ ?_
        rotate_left
        · show Act.put _ (some 8) _ = _
          simp only [Act.put, List.setIfInBounds_toArray, List.set_cons_zero, List.set_cons_succ, i64_w, i32_w]
          rfl
        refine one_ (i := 3) (N := some 29) #[true, true, true, true, true, false, false, true, false] rfl rfl (one_of HT_.out (by kernel_rfl)) (by decide) (fun K hK => ?_)
        refine goes_ Try.func57 (by kernel_rfl) rfl #[.agg #[.bool b, .slice A1 ls.length c1, .slice A2 lb.length c2]] (by rfl) rfl rfl (by (try simp only [List.map_toArray, List.map_cons, List.map_nil]); first | done | rfl) ?_
        with_reducible refine (laws_toState.calls kTS b A1 c1 ls A2 c2 lb b sc lb _ (Kd.C_below HE.out (below_step F18.out BW.out)) HEC.out (Kd.C_below HI.out (below_step F18.out BW.out)) HIC.out ETS.out).mono ?_
        rintro e wx ⟨v, v', rfl, ho, ho', hb⟩
        obtain ⟨As, cs, rfl⟩ := Kd.R_slice ho
        obtain ⟨Ad, cd, rfl⟩ := Kd.R_slice ho'
        refine ⟨_, rfl, ?_⟩
        have RT := Aside0.mk (Kd.R_below RT.out hb)
        have KB := Aside0.mk (blk_below KB.out hb)
        have RS := Aside0.mk ho
        have RD := Aside0.mk ho'
        have BW := Aside0.mk (below_step BW.out hb)
        refine hK.out _ _ ⟨pw_cell_below hb hHeld.1, pw_cell_below hb hHeld.2.1, pw_cell_below hb hHeld.2.2.1, pw_cell_below hb hHeld.2.2.2.1, pw_cell_below hb hHeld.2.2.2.2.1, pw_cell_below hb hHeld.2.2.2.2.2.1, pw_cell_below hb hHeld.2.2.2.2.2.2.1, pw_cell_below hb hHeld.2.2.2.2.2.2.2⟩ (fun hHeld => ?_)
        clear hb ho ho'
        clear hK K
        refine norm_ (a' := ?_) ?_ ?_
        rotate_left
        · show Act.put _ (some 29) _ = _
          simp only [Act.put, List.setIfInBounds_toArray, List.set_cons_zero, List.set_cons_succ, i64_w, i32_w]
          rfl
        refine one_ (i := 5) (N := some 31) #[true, true, true, true, true, true, false, true, false] rfl rfl (one_of HT_.out (by kernel_rfl)) (by decide) (fun K hK => ?_)
        refine goes_ Try.func35 (by kernel_rfl) rfl #[.agg #[.int .i64 op, .int .i64 of, .int .i64 dir]] (by rfl) rfl rfl (by (try simp only [List.map_toArray, List.map_cons, List.map_nil]); first | done | rfl) ?_
        with_reducible refine (laws_toEvent.calls op of dir op of dir _ ETE.out).mono ?_
        rintro e wx ⟨rfl, hb⟩
        refine ⟨_, rfl, ?_⟩
        have RT := Aside0.mk (Kd.R_below RT.out hb)
        have KB := Aside0.mk (blk_below KB.out hb)
        have RS := Aside0.mk (Kd.R_below RS.out hb)
        have RD := Aside0.mk (Kd.R_below RD.out hb)
        have BW := Aside0.mk (below_step BW.out hb)
        refine hK.out _ _ ⟨pw_cell_below hb hHeld.1, pw_cell_below hb hHeld.2.1, pw_cell_below hb hHeld.2.2.1, pw_cell_below hb hHeld.2.2.2.1, pw_cell_below hb hHeld.2.2.2.2.1, pw_cell_below hb hHeld.2.2.2.2.2.1, pw_cell_below hb hHeld.2.2.2.2.2.2.1, pw_cell_below hb hHeld.2.2.2.2.2.2.2⟩ (fun hHeld => ?_)
        clear hb
        clear hK K
        refine norm_ (a' := ?_) ?_ ?_
        rotate_left
        · show Act.put _ (some 31) _ = _
          simp only [Act.put, List.setIfInBounds_toArray, List.set_cons_zero, List.set_cons_succ, i64_w, i32_w]
          rfl
        refine one_ (i := 6) (N := some 32) #[true, true, true, true, true, true, true, true, false] rfl rfl (one_of HT_.out (by kernel_rfl)) (by decide) (fun K hK => ?_)
        refine goes_ Try.func69 (by kernel_rfl) rfl #[.agg #[.int .i64 n, .slice At lc.length ct], .agg #[.bool b, .slice As sc.length cs, .slice Ad lb.length cd], .agg #[.int .i64 op, .int .i64 of, .int .i64 dir]] (by rfl) rfl rfl (by (try simp only [List.map_toArray, List.map_cons, List.map_nil]); first | done | rfl) ?_
        with_reducible refine (sdo_at HD.out (Kd.R_reads' RT.out).2.2 (Kd.R_reads' RT.out).2.1 (Kd.R_reads' RS.out).2.2 (Kd.R_reads' RS.out).2.1 (Kd.R_reads' RD.out).2.2 (Kd.R_reads' RD.out).2.1).mono ?_
        rintro e wx ⟨v, v', rfl, ho, ho', hb⟩
        refine ⟨_, rfl, ?_⟩
        have RT := Aside0.mk (Kd.R_below RT.out hb)
        have KB := Aside0.mk (blk_below KB.out hb)
        have RS := Aside0.mk (Kd.R_below RS.out hb)
        have RD := Aside0.mk (Kd.R_below RD.out hb)
        have R8 := Aside0.mk (Kd.R_lower ho BW.out.size)
        have R9 := Aside0.mk (Kd.R_lower ho' BW.out.size)
        have BW := Aside0.mk (below_step BW.out hb)
        refine hK.out _ _ ⟨pw_cell_below hb hHeld.1, pw_cell_below hb hHeld.2.1, pw_cell_below hb hHeld.2.2.1, pw_cell_below hb hHeld.2.2.2.1, pw_cell_below hb hHeld.2.2.2.2.1, pw_cell_below hb hHeld.2.2.2.2.2.1, pw_cell_below hb hHeld.2.2.2.2.2.2.1, pw_cell_below hb hHeld.2.2.2.2.2.2.2⟩ (fun hHeld => ?_)
        clear hb ho ho'
        clear hK K
        refine norm_ (a' := ?_) ?_ ?_
        rotate_left
        · show Act.put _ (some 32) _ = _
          simp only [Act.put, List.setIfInBounds_toArray, List.set_cons_zero, List.set_cons_succ, i64_w, i32_w]
          rfl
        exact norm_ (by simp only [putAll, Act.put, List.setIfInBounds_toArray, List.set_cons_zero, List.set_cons_succ] <;> rfl) (hCont (gb, _, _, _, _, _) _ ⟨hHeld, KB.out, GB.out, R8.out, R9.out, BW.out⟩)
    · skip
      refine box_step (N := 8) ?hg ?hd (cs := #[.int .i64 0, .bool false, .slice none 0 0, .slice none 0 0]) (t := 48) ?hr ?_; (case hd => rfl); (case hg => rfl); (case hr => first | (go_simp; done) | (go_simp; rfl))
      intro gb eb wx kb hb
      have KB := Aside0.mk kb
      have GB := Aside0.mk (show q8.heap.size ≤ gb by rw [eb]; exact BW.out.size)
      have BW := Aside0.mk (below_step BW.out hb)
      refine hK.out _ _ ⟨pw_cell_below hb hHeld.1, pw_cell_below hb hHeld.2.1, pw_cell_below hb hHeld.2.2.1, pw_cell_below hb hHeld.2.2.2.1, pw_cell_below hb hHeld.2.2.2.2.1, pw_cell_below hb hHeld.2.2.2.2.2.1, pw_cell_below hb hHeld.2.2.2.2.2.2.1, pw_cell_below hb hHeld.2.2.2.2.2.2.2⟩ (fun hHeld => ?_)
      clear eb kb hb
      clear hK K
      refine norm_ (a' := ?_) ?_ ?_
      rotate_left
      · show Act.put _ (some 8) _ = _
        simp only [Act.put, List.setIfInBounds_toArray, List.set_cons_zero, List.set_cons_succ, i64_w, i32_w]
        rfl
      refine one_ (i := 1) (N := some 27) #[true, true, true, false, true, false, false, true, false] rfl rfl (one_of HT_.out (by kernel_rfl)) (by decide) (fun K hK => ?_)
      refine goes_ Try.func24 (by kernel_rfl) rfl #[.agg #[.int .i64 n, .slice A l.length c]] (by rfl) rfl rfl (by (try simp only [List.map_toArray, List.map_cons, List.map_nil]); first | done | rfl) ?_
      with_reducible refine (laws_toLayout.calls kTL n A c l n lc _ (Kd.C_below HR.out (below_step F18.out BW.out)) HC.out ETL.out).mono ?_
      rintro e wx ⟨v, rfl, ho, hb⟩
      obtain ⟨At, ct, rfl⟩ := Kd.R_slice ho
      refine ⟨_, rfl, ?_⟩
      have KB := Aside0.mk (blk_below KB.out hb)
      have RT := Aside0.mk ho
      have BW := Aside0.mk (below_step BW.out hb)
      refine hK.out _ _ ⟨pw_cell_below hb hHeld.1, pw_cell_below hb hHeld.2.1, pw_cell_below hb hHeld.2.2.1, pw_cell_below hb hHeld.2.2.2.1, pw_cell_below hb hHeld.2.2.2.2.1, pw_cell_below hb hHeld.2.2.2.2.2.1, pw_cell_below hb hHeld.2.2.2.2.2.2.1, pw_cell_below hb hHeld.2.2.2.2.2.2.2⟩ (fun hHeld => ?_)
      clear hb ho
      clear hK K
      refine norm_ (a' := ?_) ?_ ?_
      rotate_left
      · show Act.put _ (some 27) _ = _
        simp only [Act.put, List.setIfInBounds_toArray, List.set_cons_zero, List.set_cons_succ, i64_w, i32_w]
        rfl
      refine one_ (i := 3) (N := some 29) #[true, true, true, true, true, false, false, true, false] rfl rfl (one_of HT_.out (by kernel_rfl)) (by decide) (fun K hK => ?_)
      refine goes_ Try.func57 (by kernel_rfl) rfl #[.agg #[.bool b, .slice A1 ls.length c1, .slice A2 lb.length c2]] (by rfl) rfl rfl (by (try simp only [List.map_toArray, List.map_cons, List.map_nil]); first | done | rfl) ?_
      with_reducible refine (laws_toState.calls kTS b A1 c1 ls A2 c2 lb b sc lb _ (Kd.C_below HE.out (below_step F18.out BW.out)) HEC.out (Kd.C_below HI.out (below_step F18.out BW.out)) HIC.out ETS.out).mono ?_
      rintro e wx ⟨v, v', rfl, ho, ho', hb⟩
      obtain ⟨As, cs, rfl⟩ := Kd.R_slice ho
      obtain ⟨Ad, cd, rfl⟩ := Kd.R_slice ho'
      refine ⟨_, rfl, ?_⟩
      have KB := Aside0.mk (blk_below KB.out hb)
      have RT := Aside0.mk (Kd.R_below RT.out hb)
      have RS := Aside0.mk ho
      have RD := Aside0.mk ho'
      have BW := Aside0.mk (below_step BW.out hb)
      refine hK.out _ _ ⟨pw_cell_below hb hHeld.1, pw_cell_below hb hHeld.2.1, pw_cell_below hb hHeld.2.2.1, pw_cell_below hb hHeld.2.2.2.1, pw_cell_below hb hHeld.2.2.2.2.1, pw_cell_below hb hHeld.2.2.2.2.2.1, pw_cell_below hb hHeld.2.2.2.2.2.2.1, pw_cell_below hb hHeld.2.2.2.2.2.2.2⟩ (fun hHeld => ?_)
      clear hb ho ho'
      clear hK K
      refine norm_ (a' := ?_) ?_ ?_
      rotate_left
      · show Act.put _ (some 29) _ = _
        simp only [Act.put, List.setIfInBounds_toArray, List.set_cons_zero, List.set_cons_succ, i64_w, i32_w]
        rfl
      refine one_ (i := 5) (N := some 31) #[true, true, true, true, true, true, false, true, false] rfl rfl (one_of HT_.out (by kernel_rfl)) (by decide) (fun K hK => ?_)
      refine goes_ Try.func35 (by kernel_rfl) rfl #[.agg #[.int .i64 op, .int .i64 of, .int .i64 dir]] (by rfl) rfl rfl (by (try simp only [List.map_toArray, List.map_cons, List.map_nil]); first | done | rfl) ?_
      with_reducible refine (laws_toEvent.calls op of dir op of dir _ ETE.out).mono ?_
      rintro e wx ⟨rfl, hb⟩
      refine ⟨_, rfl, ?_⟩
      have KB := Aside0.mk (blk_below KB.out hb)
      have RT := Aside0.mk (Kd.R_below RT.out hb)
      have RS := Aside0.mk (Kd.R_below RS.out hb)
      have RD := Aside0.mk (Kd.R_below RD.out hb)
      have BW := Aside0.mk (below_step BW.out hb)
      refine hK.out _ _ ⟨pw_cell_below hb hHeld.1, pw_cell_below hb hHeld.2.1, pw_cell_below hb hHeld.2.2.1, pw_cell_below hb hHeld.2.2.2.1, pw_cell_below hb hHeld.2.2.2.2.1, pw_cell_below hb hHeld.2.2.2.2.2.1, pw_cell_below hb hHeld.2.2.2.2.2.2.1, pw_cell_below hb hHeld.2.2.2.2.2.2.2⟩ (fun hHeld => ?_)
      clear hb
      clear hK K
      refine norm_ (a' := ?_) ?_ ?_
      rotate_left
      · show Act.put _ (some 31) _ = _
        simp only [Act.put, List.setIfInBounds_toArray, List.set_cons_zero, List.set_cons_succ, i64_w, i32_w]
        rfl
      refine one_ (i := 6) (N := some 32) #[true, true, true, true, true, true, true, true, false] rfl rfl (one_of HT_.out (by kernel_rfl)) (by decide) (fun K hK => ?_)
      refine goes_ Try.func69 (by kernel_rfl) rfl #[.agg #[.int .i64 n, .slice At lc.length ct], .agg #[.bool b, .slice As sc.length cs, .slice Ad lb.length cd], .agg #[.int .i64 op, .int .i64 of, .int .i64 dir]] (by rfl) rfl rfl (by (try simp only [List.map_toArray, List.map_cons, List.map_nil]); first | done | rfl) ?_
      with_reducible refine (sdo_at HD.out (Kd.R_reads' RT.out).2.2 (Kd.R_reads' RT.out).2.1 (Kd.R_reads' RS.out).2.2 (Kd.R_reads' RS.out).2.1 (Kd.R_reads' RD.out).2.2 (Kd.R_reads' RD.out).2.1).mono ?_
      rintro e wx ⟨v, v', rfl, ho, ho', hb⟩
      refine ⟨_, rfl, ?_⟩
      have KB := Aside0.mk (blk_below KB.out hb)
      have RT := Aside0.mk (Kd.R_below RT.out hb)
      have RS := Aside0.mk (Kd.R_below RS.out hb)
      have RD := Aside0.mk (Kd.R_below RD.out hb)
      have R8 := Aside0.mk (Kd.R_lower ho BW.out.size)
      have R9 := Aside0.mk (Kd.R_lower ho' BW.out.size)
      have BW := Aside0.mk (below_step BW.out hb)
      refine hK.out _ _ ⟨pw_cell_below hb hHeld.1, pw_cell_below hb hHeld.2.1, pw_cell_below hb hHeld.2.2.1, pw_cell_below hb hHeld.2.2.2.1, pw_cell_below hb hHeld.2.2.2.2.1, pw_cell_below hb hHeld.2.2.2.2.2.1, pw_cell_below hb hHeld.2.2.2.2.2.2.1, pw_cell_below hb hHeld.2.2.2.2.2.2.2⟩ (fun hHeld => ?_)
      clear hb ho ho'
      clear hK K
      refine norm_ (a' := ?_) ?_ ?_
      rotate_left
      · show Act.put _ (some 32) _ = _
        simp only [Act.put, List.setIfInBounds_toArray, List.set_cons_zero, List.set_cons_succ, i64_w, i32_w]
        rfl
      exact norm_ (by simp only [putAll, Act.put, List.setIfInBounds_toArray, List.set_cons_zero, List.set_cons_succ] <;> rfl) (hCont (gb, _, _, _, _, _) _ ⟨hHeld, KB.out, GB.out, R8.out, R9.out, BW.out⟩)
  rintro ⟨g8, v8, v9, vL, vS, vD⟩ w6 ⟨hS, kb, gb, h8, h9, hbw⟩
  dsimp only at hS kb gb h8 h9 hbw
  obtain ⟨Bq8, eq8, rfl⟩ := Kd.R_slice h8
  obtain ⟨Dq8, fq8, rfl⟩ := Kd.R_slice h9
  have kb0 : w6.cell? ⟨g8, 0, none⟩ = some (Value.int .i64 0) := (blk_cell kb 0).trans rfl
  have zb0 := blk_frozen kb 0
  have kb1 : w6.cell? ⟨g8, 1, none⟩ = some (Value.bool false) := (blk_cell kb 1).trans rfl
  have zb1 := blk_frozen kb 1
  have kb2 : w6.cell? ⟨g8, 2, none⟩ = some (Value.slice none 0 0) := (blk_cell kb 2).trans rfl
  have zb2 := blk_frozen kb 2
  have kb3 : w6.cell? ⟨g8, 3, none⟩ = some (Value.slice none 0 0) := (blk_cell kb 3).trans rfl
  have zb3 := blk_frozen kb 3
  have KB := Aside0.mk kb
  have GB := Aside0.mk gb
  have R8 := Aside0.mk h8
  have R9 := Aside0.mk h9
  have BW := Aside0.mk hbw
  clear kb gb h8 h9 hbw hHeld
  refine norm_ (a' := ?_) ?_ ?_
  rotate_left
  · simp only [putAll, Act.put, List.setIfInBounds_toArray, List.set_cons_zero, List.set_cons_succ]
    rfl
  refine last_ (i := 8) (N := none) #[true, true, true, true, true, true, true, true, true] rfl rfl (one_of HT_.out (by kernel_rfl)) (by decide) (fun K hK => ?_)
  refine skip_ (w1 := ?_) (by rfl) rfl ?_ ?_
  rotate_left
  · go_simp
    rfl
  refine hK.out _ _ ?_
  clear hK K
  refine done_ (done_of HT_.out (by kernel_rfl)) ?_
  clear HT_ HW_ hS kb0 kb1 kb2 kb3 zb0 zb1 zb2 zb3
  have KY := Aside0.mk (blk_put (blk_put (blk_put (blk_put (KB.out) 0 (.int .i64 d0) rfl) 1 (.bool d1) rfl) 2 (.slice Bq8 ds.length eq8) rfl) 3 (.slice Dq8 dd.length fq8) rfl)
  have Q8 := Aside0.mk (Kd.R_set (Kd.R_set (Kd.R_set (Kd.R_set (R8.out) (KB.out) (by decide) 0 (.int .i64 d0)) (blk_put (KB.out) 0 (.int .i64 d0) rfl) (by decide) 1 (.bool d1)) (blk_put (blk_put (KB.out) 0 (.int .i64 d0) rfl) 1 (.bool d1) rfl) (by decide) 2 (.slice Bq8 ds.length eq8)) (blk_put (blk_put (blk_put (KB.out) 0 (.int .i64 d0) rfl) 1 (.bool d1) rfl) 2 (.slice Bq8 ds.length eq8) rfl) (by decide) 3 (.slice Dq8 dd.length fq8))
  have Q9 := Aside0.mk (Kd.R_set (Kd.R_set (Kd.R_set (Kd.R_set (R9.out) (KB.out) (by decide) 0 (.int .i64 d0)) (blk_put (KB.out) 0 (.int .i64 d0) rfl) (by decide) 1 (.bool d1)) (blk_put (blk_put (KB.out) 0 (.int .i64 d0) rfl) 1 (.bool d1) rfl) (by decide) 2 (.slice Bq8 ds.length eq8)) (blk_put (blk_put (blk_put (KB.out) 0 (.int .i64 d0) rfl) 1 (.bool d1) rfl) 2 (.slice Bq8 ds.length eq8) rfl) (by decide) 3 (.slice Dq8 dd.length fq8))
  have BY := Aside0.mk (below_set (j := 3) (v := .slice Dq8 dd.length fq8) (below_set (j := 2) (v := .slice Bq8 ds.length eq8) (below_set (j := 1) (v := .bool d1) (below_set (j := 0) (v := .int .i64 d0) (BW.out) GB.out) GB.out) GB.out) GB.out)
  clear KB R8 R9 BW
  generalize ((((w6.setCell ⟨g8, 0, none⟩ (.int .i64 d0)).setCell ⟨g8, 1, none⟩ (.bool d1)).setCell ⟨g8, 2, none⟩ (.slice Bq8 ds.length eq8)).setCell ⟨g8, 3, none⟩ (.slice Dq8 dd.length fq8)) = w7 at KY Q8 Q9 BY ⊢
  have BSZ := (F18.out).size
  have Z6 : Aside0 (q8.heap.size ≤ w7.heap.size) := ⟨BY.out.size⟩
  have F22 : Aside0 (Below w.heap.size w w7) := ⟨below_step F18.out BY.out⟩
  clear F18
  have F23 : Aside0 (w7.heap[gl]? = some (.cells #[.int .i64 n, .slice A l.length c] 25 (0, 0))) := ⟨blk_below F19.out BY.out⟩
  clear F19
  have F24 : Aside0 (w7.heap[gt]? = some (.cells #[.bool b, .slice A1 ls.length c1, .slice A2 lb.length c2] 77 (0, 0))) := ⟨blk_below F20.out BY.out⟩
  clear F20
  have F25 : Aside0 (w7.heap[ge]? = some (.cells #[.int .i64 op, .int .i64 of, .int .i64 dir] 54 (0, 0))) := ⟨blk_below F21.out BY.out⟩
  clear F21
  have h8 := Q8.out
  have h9 := Q9.out
  have W0B := Aside0.mk KY.out
  have W0H : Aside0 (g8 < w7.heap.size) := ⟨blk_lt KY.out⟩
  have W0G := Aside0.mk GB.out
  clear KY Q8 Q9 BY GB
  have F26 : Aside0 (Kd.R k50 50 w7 w.heap.size (fun k => q8.heap.size ≤ k ∧ k < w7.heap.size) (.slice Bq8 ds.length eq8) ds) := ⟨Kd.R_mono (Kd.R_lower (Kd.R_bound h8) BSZ) (fun k hq => ⟨hq.2.1, hq.2.2.1⟩)⟩
  clear h8
  have F27 : Aside0 (Kd.R Kd.bool 4 w7 w.heap.size (fun k => q8.heap.size ≤ k ∧ k < w7.heap.size) (.slice Dq8 dd.length fq8) dd) := ⟨Kd.R_mono (Kd.R_lower (Kd.R_bound h9) BSZ) (fun k hq => ⟨hq.2.1, hq.2.2.1⟩)⟩
  clear h9
  clear BSZ
  go_upto_region 9 with fail
  have kl0 : w7.cell? ⟨gl, 0, none⟩ = some (.int .i64 n) := (blk_cell F23.out 0).trans rfl
  have kl1 : w7.cell? ⟨gl, 1, none⟩ = some (.slice A l.length c) := (blk_cell F23.out 1).trans rfl
  go_upto_region 10 with (first | (go_at_call 24; refine (laws_toLayout.calls kTL n A c l n lc _ (Kd.C_below HR.out F22.out) HC.out ETL.out).mono ?_; rintro e w8 ⟨v, rfl, ho, hb⟩; have BSZ := (F22.out).size; have Z7 : Aside0 (w7.heap.size ≤ w8.heap.size) := ⟨hb.size⟩; have F28 : Aside0 (Below w.heap.size w w8) := ⟨below_step F22.out hb⟩; clear F22; have F29 : Aside0 (w8.heap[gl]? = some (.cells #[.int .i64 n, .slice A l.length c] 25 (0, 0))) := ⟨blk_below F23.out hb⟩; clear F23; have F30 : Aside0 (w8.heap[gt]? = some (.cells #[.bool b, .slice A1 ls.length c1, .slice A2 lb.length c2] 77 (0, 0))) := ⟨blk_below F24.out hb⟩; clear F24; have F31 : Aside0 (w8.heap[ge]? = some (.cells #[.int .i64 op, .int .i64 of, .int .i64 dir] 54 (0, 0))) := ⟨blk_below F25.out hb⟩; clear F25; have F32 : Aside0 (Kd.R k50 50 w8 w.heap.size (fun k => q8.heap.size ≤ k ∧ k < w7.heap.size) (.slice Bq8 ds.length eq8) ds) := ⟨Kd.R_below F26.out hb⟩; clear F26; have F33 : Aside0 (Kd.R Kd.bool 4 w8 w.heap.size (fun k => q8.heap.size ≤ k ∧ k < w7.heap.size) (.slice Dq8 dd.length fq8) dd) := ⟨Kd.R_below F27.out hb⟩; clear F27; have F34 : Aside0 (w8.heap[g8]? = some (.cells #[.int .i64 d0, .bool d1, .slice Bq8 ds.length eq8, .slice Dq8 dd.length fq8] 48 (0, 0))) := ⟨blk_below W0B.out hb⟩; clear W0B; obtain ⟨A8, c8, rfl⟩ := Kd.R_slice ho; have F35 : Aside0 (Kd.R k88 88 w8 w.heap.size (fun k => w7.heap.size ≤ k ∧ k < w8.heap.size) (.slice A8 lc.length c8) lc) := ⟨Kd.R_mono (Kd.R_lower (Kd.R_bound ho) BSZ) (fun k hq => ⟨hq.2.1, hq.2.2.1⟩)⟩; clear ho; clear hb BSZ) | ((with_reducible refine gate_dst (N := 9) rfl ?_); refine box_event ?hg (N := 9) ?hd (cs := #[.int .i64 0, .slice none 0 0]) (t := 30) ?hr ?_; (case hd => rfl); (case hg => rfl); (case hr => first | (go_simp; done) | (go_simp; rfl)); intro gx ex w9 kx bx; have zkx0 := blk_frozen kx 0; have kx0 := (blk_cell kx 0).trans (show _ = some (Value.int .i64 0) from rfl); have zkx1 := blk_frozen kx 1; have kx1 := (blk_cell kx 1).trans (show _ = some (Value.slice none 0 0) from rfl); have KX := Aside0.mk kx; have EXXB := Aside0.mk ex; have BX := Aside0.mk bx; clear kx ex bx))
  have KY := Aside0.mk (blk_put (blk_put (KX.out) 0 (.int .i64 n) rfl) 1 (.slice A8 lc.length c8) rfl)
  have BY := Aside0.mk (below_set (j := 1) (v := .slice A8 lc.length c8) (below_set (j := 0) (v := .int .i64 n) (BX.out) (Nat.le_of_eq EXXB.out.symm)) (Nat.le_of_eq EXXB.out.symm))
  clear KX BX zkx0 kx0 zkx1 kx1
  generalize ((w9.setCell ⟨gx, 0, none⟩ (.int .i64 n)).setCell ⟨gx, 1, none⟩ (.slice A8 lc.length c8)) = w10 at KY BY ⊢
  have Z8 : Aside0 (w8.heap.size ≤ w10.heap.size) := ⟨BY.out.size⟩
  have F36 : Aside0 (Below w.heap.size w w10) := ⟨below_step F28.out BY.out⟩
  clear F28
  have F37 : Aside0 (w10.heap[gl]? = some (.cells #[.int .i64 n, .slice A l.length c] 25 (0, 0))) := ⟨blk_below F29.out BY.out⟩
  clear F29
  have F38 : Aside0 (w10.heap[gt]? = some (.cells #[.bool b, .slice A1 ls.length c1, .slice A2 lb.length c2] 77 (0, 0))) := ⟨blk_below F30.out BY.out⟩
  clear F30
  have F39 : Aside0 (w10.heap[ge]? = some (.cells #[.int .i64 op, .int .i64 of, .int .i64 dir] 54 (0, 0))) := ⟨blk_below F31.out BY.out⟩
  clear F31
  have F40 : Aside0 (Kd.R k50 50 w10 w.heap.size (fun k => q8.heap.size ≤ k ∧ k < w7.heap.size) (.slice Bq8 ds.length eq8) ds) := ⟨Kd.R_below F32.out BY.out⟩
  clear F32
  have F41 : Aside0 (Kd.R Kd.bool 4 w10 w.heap.size (fun k => q8.heap.size ≤ k ∧ k < w7.heap.size) (.slice Dq8 dd.length fq8) dd) := ⟨Kd.R_below F33.out BY.out⟩
  clear F33
  have F42 : Aside0 (w10.heap[g8]? = some (.cells #[.int .i64 d0, .bool d1, .slice Bq8 ds.length eq8, .slice Dq8 dd.length fq8] 48 (0, 0))) := ⟨blk_below F34.out BY.out⟩
  clear F34
  have F43 : Aside0 (Kd.R k88 88 w10 w.heap.size (fun k => w7.heap.size ≤ k ∧ k < w8.heap.size) (.slice A8 lc.length c8) lc) := ⟨Kd.R_below F35.out BY.out⟩
  clear F35
  have KXB := Aside0.mk KY.out
  clear BY KY
  have EYXB : Aside0 (gx < w10.heap.size) := ⟨blk_lt KXB.out⟩
  clear kl0 kl1
  have kt0 : w10.cell? ⟨gt, 0, none⟩ = some (.bool b) := (blk_cell F38.out 0).trans rfl
  have kt1 : w10.cell? ⟨gt, 1, none⟩ = some (.slice A1 ls.length c1) := (blk_cell F38.out 1).trans rfl
  have kt2 : w10.cell? ⟨gt, 2, none⟩ = some (.slice A2 lb.length c2) := (blk_cell F38.out 2).trans rfl
  go_upto_region 11 with (first | (go_at_call 57; refine (laws_toState.calls kTS b A1 c1 ls A2 c2 lb b sc lb _ (Kd.C_below HE.out F36.out) HEC.out (Kd.C_below HI.out F36.out) HIC.out ETS.out).mono ?_; rintro e w11 ⟨v, v', rfl, ho, ho', hb⟩; have BSZ := (F36.out).size; have Z9 : Aside0 (w10.heap.size ≤ w11.heap.size) := ⟨hb.size⟩; have F44 : Aside0 (Below w.heap.size w w11) := ⟨below_step F36.out hb⟩; clear F36; have F45 : Aside0 (w11.heap[gl]? = some (.cells #[.int .i64 n, .slice A l.length c] 25 (0, 0))) := ⟨blk_below F37.out hb⟩; clear F37; have F46 : Aside0 (w11.heap[gt]? = some (.cells #[.bool b, .slice A1 ls.length c1, .slice A2 lb.length c2] 77 (0, 0))) := ⟨blk_below F38.out hb⟩; clear F38; have F47 : Aside0 (w11.heap[ge]? = some (.cells #[.int .i64 op, .int .i64 of, .int .i64 dir] 54 (0, 0))) := ⟨blk_below F39.out hb⟩; clear F39; have F48 : Aside0 (Kd.R k50 50 w11 w.heap.size (fun k => q8.heap.size ≤ k ∧ k < w7.heap.size) (.slice Bq8 ds.length eq8) ds) := ⟨Kd.R_below F40.out hb⟩; clear F40; have F49 : Aside0 (Kd.R Kd.bool 4 w11 w.heap.size (fun k => q8.heap.size ≤ k ∧ k < w7.heap.size) (.slice Dq8 dd.length fq8) dd) := ⟨Kd.R_below F41.out hb⟩; clear F41; have F50 : Aside0 (w11.heap[g8]? = some (.cells #[.int .i64 d0, .bool d1, .slice Bq8 ds.length eq8, .slice Dq8 dd.length fq8] 48 (0, 0))) := ⟨blk_below F42.out hb⟩; clear F42; have F51 : Aside0 (Kd.R k88 88 w11 w.heap.size (fun k => w7.heap.size ≤ k ∧ k < w8.heap.size) (.slice A8 lc.length c8) lc) := ⟨Kd.R_below F43.out hb⟩; clear F43; have F52 : Aside0 (w11.heap[gx]? = some (.cells #[.int .i64 n, .slice A8 lc.length c8] 30 (0, 0))) := ⟨blk_below KXB.out hb⟩; clear KXB; obtain ⟨A11, c11, rfl⟩ := Kd.R_slice ho; obtain ⟨D11, f11, rfl⟩ := Kd.R_slice ho'; have F53 : Aside0 (Kd.R k50 50 w11 w.heap.size (fun k => w10.heap.size ≤ k ∧ k < w11.heap.size) (.slice A11 sc.length c11) sc) := ⟨Kd.R_mono (Kd.R_lower (Kd.R_bound ho) BSZ) (fun k hq => ⟨hq.2.1, hq.2.2.1⟩)⟩; clear ho; have F54 : Aside0 (Kd.R Kd.bool 4 w11 w.heap.size (fun k => w10.heap.size ≤ k ∧ k < w11.heap.size) (.slice D11 lb.length f11) lb) := ⟨Kd.R_mono (Kd.R_lower (Kd.R_bound ho') BSZ) (fun k hq => ⟨hq.2.1, hq.2.2.1⟩)⟩; clear ho'; clear hb BSZ) | ((with_reducible refine gate_dst (N := 10) rfl ?_); refine box_event ?hg (N := 10) ?hd (cs := #[.bool false, .slice none 0 0, .slice none 0 0]) (t := 46) ?hr ?_; (case hd => rfl); (case hg => rfl); (case hr => first | (go_simp; done) | (go_simp; rfl)); intro gy ex w12 kx bx; have zky0 := blk_frozen kx 0; have ky0 := (blk_cell kx 0).trans (show _ = some (Value.bool false) from rfl); have zky1 := blk_frozen kx 1; have ky1 := (blk_cell kx 1).trans (show _ = some (Value.slice none 0 0) from rfl); have zky2 := blk_frozen kx 2; have ky2 := (blk_cell kx 2).trans (show _ = some (Value.slice none 0 0) from rfl); have KX := Aside0.mk kx; have EXYB := Aside0.mk ex; have BX := Aside0.mk bx; clear kx ex bx))
  have KY := Aside0.mk (blk_put (blk_put (blk_put (KX.out) 0 (.bool b) rfl) 1 (.slice A11 sc.length c11) rfl) 2 (.slice D11 lb.length f11) rfl)
  have BY := Aside0.mk (below_set (j := 2) (v := .slice D11 lb.length f11) (below_set (j := 1) (v := .slice A11 sc.length c11) (below_set (j := 0) (v := .bool b) (BX.out) (Nat.le_of_eq EXYB.out.symm)) (Nat.le_of_eq EXYB.out.symm)) (Nat.le_of_eq EXYB.out.symm))
  clear KX BX zky0 ky0 zky1 ky1 zky2 ky2
  generalize (((w12.setCell ⟨gy, 0, none⟩ (.bool b)).setCell ⟨gy, 1, none⟩ (.slice A11 sc.length c11)).setCell ⟨gy, 2, none⟩ (.slice D11 lb.length f11)) = w13 at KY BY ⊢
  have Z10 : Aside0 (w11.heap.size ≤ w13.heap.size) := ⟨BY.out.size⟩
  have F55 : Aside0 (Below w.heap.size w w13) := ⟨below_step F44.out BY.out⟩
  clear F44
  have F56 : Aside0 (w13.heap[gl]? = some (.cells #[.int .i64 n, .slice A l.length c] 25 (0, 0))) := ⟨blk_below F45.out BY.out⟩
  clear F45
  have F57 : Aside0 (w13.heap[gt]? = some (.cells #[.bool b, .slice A1 ls.length c1, .slice A2 lb.length c2] 77 (0, 0))) := ⟨blk_below F46.out BY.out⟩
  clear F46
  have F58 : Aside0 (w13.heap[ge]? = some (.cells #[.int .i64 op, .int .i64 of, .int .i64 dir] 54 (0, 0))) := ⟨blk_below F47.out BY.out⟩
  clear F47
  have F59 : Aside0 (Kd.R k50 50 w13 w.heap.size (fun k => q8.heap.size ≤ k ∧ k < w7.heap.size) (.slice Bq8 ds.length eq8) ds) := ⟨Kd.R_below F48.out BY.out⟩
  clear F48
  have F60 : Aside0 (Kd.R Kd.bool 4 w13 w.heap.size (fun k => q8.heap.size ≤ k ∧ k < w7.heap.size) (.slice Dq8 dd.length fq8) dd) := ⟨Kd.R_below F49.out BY.out⟩
  clear F49
  have F61 : Aside0 (w13.heap[g8]? = some (.cells #[.int .i64 d0, .bool d1, .slice Bq8 ds.length eq8, .slice Dq8 dd.length fq8] 48 (0, 0))) := ⟨blk_below F50.out BY.out⟩
  clear F50
  have F62 : Aside0 (Kd.R k88 88 w13 w.heap.size (fun k => w7.heap.size ≤ k ∧ k < w8.heap.size) (.slice A8 lc.length c8) lc) := ⟨Kd.R_below F51.out BY.out⟩
  clear F51
  have F63 : Aside0 (w13.heap[gx]? = some (.cells #[.int .i64 n, .slice A8 lc.length c8] 30 (0, 0))) := ⟨blk_below F52.out BY.out⟩
  clear F52
  have F64 : Aside0 (Kd.R k50 50 w13 w.heap.size (fun k => w10.heap.size ≤ k ∧ k < w11.heap.size) (.slice A11 sc.length c11) sc) := ⟨Kd.R_below F53.out BY.out⟩
  clear F53
  have F65 : Aside0 (Kd.R Kd.bool 4 w13 w.heap.size (fun k => w10.heap.size ≤ k ∧ k < w11.heap.size) (.slice D11 lb.length f11) lb) := ⟨Kd.R_below F54.out BY.out⟩
  clear F54
  have KYB := Aside0.mk KY.out
  clear BY KY
  have EYYB : Aside0 (gy < w13.heap.size) := ⟨blk_lt KYB.out⟩
  clear kt0 kt1 kt2
  have Z11 : Aside0 (w13.heap.size ≤ w13.drew.heap.size) := ⟨(below_drew1 (Below.refl w13.heap.size w13)).size⟩
  have F66 : Aside0 (Below w.heap.size w w13.drew) := ⟨below_step F55.out (below_drew1 (Below.refl w13.heap.size w13))⟩
  clear F55
  have F67 : Aside0 (w13.drew.heap[gl]? = some (.cells #[.int .i64 n, .slice A l.length c] 25 (0, 0))) := ⟨blk_below F56.out (below_drew1 (Below.refl w13.heap.size w13))⟩
  clear F56
  have F68 : Aside0 (w13.drew.heap[gt]? = some (.cells #[.bool b, .slice A1 ls.length c1, .slice A2 lb.length c2] 77 (0, 0))) := ⟨blk_below F57.out (below_drew1 (Below.refl w13.heap.size w13))⟩
  clear F57
  have F69 : Aside0 (w13.drew.heap[ge]? = some (.cells #[.int .i64 op, .int .i64 of, .int .i64 dir] 54 (0, 0))) := ⟨blk_below F58.out (below_drew1 (Below.refl w13.heap.size w13))⟩
  clear F58
  have F70 : Aside0 (Kd.R k50 50 w13.drew w.heap.size (fun k => q8.heap.size ≤ k ∧ k < w7.heap.size) (.slice Bq8 ds.length eq8) ds) := ⟨Kd.R_below F59.out (below_drew1 (Below.refl w13.heap.size w13))⟩
  clear F59
  have F71 : Aside0 (Kd.R Kd.bool 4 w13.drew w.heap.size (fun k => q8.heap.size ≤ k ∧ k < w7.heap.size) (.slice Dq8 dd.length fq8) dd) := ⟨Kd.R_below F60.out (below_drew1 (Below.refl w13.heap.size w13))⟩
  clear F60
  have F72 : Aside0 (w13.drew.heap[g8]? = some (.cells #[.int .i64 d0, .bool d1, .slice Bq8 ds.length eq8, .slice Dq8 dd.length fq8] 48 (0, 0))) := ⟨blk_below F61.out (below_drew1 (Below.refl w13.heap.size w13))⟩
  clear F61
  have F73 : Aside0 (Kd.R k88 88 w13.drew w.heap.size (fun k => w7.heap.size ≤ k ∧ k < w8.heap.size) (.slice A8 lc.length c8) lc) := ⟨Kd.R_below F62.out (below_drew1 (Below.refl w13.heap.size w13))⟩
  clear F62
  have F74 : Aside0 (w13.drew.heap[gx]? = some (.cells #[.int .i64 n, .slice A8 lc.length c8] 30 (0, 0))) := ⟨blk_below F63.out (below_drew1 (Below.refl w13.heap.size w13))⟩
  clear F63
  have F75 : Aside0 (Kd.R k50 50 w13.drew w.heap.size (fun k => w10.heap.size ≤ k ∧ k < w11.heap.size) (.slice A11 sc.length c11) sc) := ⟨Kd.R_below F64.out (below_drew1 (Below.refl w13.heap.size w13))⟩
  clear F64
  have F76 : Aside0 (Kd.R Kd.bool 4 w13.drew w.heap.size (fun k => w10.heap.size ≤ k ∧ k < w11.heap.size) (.slice D11 lb.length f11) lb) := ⟨Kd.R_below F65.out (below_drew1 (Below.refl w13.heap.size w13))⟩
  clear F65
  have F77 : Aside0 (w13.drew.heap[gy]? = some (.cells #[.bool b, .slice A11 sc.length c11, .slice D11 lb.length f11] 46 (0, 0))) := ⟨blk_below KYB.out (below_drew1 (Below.refl w13.heap.size w13))⟩
  clear KYB
  refine start_ (n := 7) (S := fun w' => w'.cell? ⟨gx, 0, none⟩ = some (.int .i64 n) ∧ w'.cell? ⟨gx, 1, none⟩ = some (.slice A8 lc.length c8) ∧ w'.cell? ⟨gy, 0, none⟩ = some (.bool b) ∧ w'.cell? ⟨gy, 1, none⟩ = some (.slice A11 sc.length c11) ∧ w'.cell? ⟨gy, 2, none⟩ = some (.slice D11 lb.length f11) ∧ w'.cell? ⟨ge, 0, none⟩ = some (.int .i64 op) ∧ w'.cell? ⟨ge, 1, none⟩ = some (.int .i64 of) ∧ w'.cell? ⟨ge, 2, none⟩ = some (.int .i64 dir)) (ds := [6]) #[false, false, false, false, false, false, false] (by kernel_rfl) rfl rfl ⟨(blk_cell F74.out 0).trans rfl, (blk_cell F74.out 1).trans rfl, (blk_cell F77.out 0).trans rfl, (blk_cell F77.out 1).trans rfl, (blk_cell F77.out 2).trans rfl, (blk_cell F69.out 0).trans rfl, (blk_cell F69.out 1).trans rfl, (blk_cell F69.out 2).trans rfl⟩ (fun hHeld => ?_)
  refine with_tabW dw_tab11 dw_bits11 (fun HT_ HW_ => ?_)
  generalize w13.drew = q11 at F66 F67 F68 F69 F70 F71 F72 F73 F74 F75 F76 F77 Z11 hHeld ⊢
  have BW := Aside0.mk (Below.refl q11.heap.size q11)
  refine take_ (i := 0) (N := some 37) (v := ?_) (a' := ?_) #[true, false, false, false, false, false, false] rfl rfl (take_ofW HT_.out HW_.out (by kernel_rfl)) (fun _ _ _ h => h) (Or.inl ⟨by rfl, ?_⟩) hHeld ?_ ?_
  rotate_left
  · rintro w' ⟨s0, s1, s2, s3, s4, s5, s6, s7⟩
    go_simp
    with_reducible rfl
  rotate_left
  · simp only [Act.put, List.setIfInBounds_toArray, List.set_cons_zero, List.set_cons_succ, i64_w, i32_w]
    rfl
  refine take_ (i := 1) (N := some 38) (v := ?_) (a' := ?_) #[true, true, false, false, false, false, false] rfl rfl (take_ofW HT_.out HW_.out (by kernel_rfl)) (fun _ _ _ h => h) (Or.inl ⟨by rfl, ?_⟩) hHeld ?_ ?_
  rotate_left
  · rintro w' ⟨s0, s1, s2, s3, s4, s5, s6, s7⟩
    go_simp
    with_reducible rfl
  rotate_left
  · simp only [Act.put, List.setIfInBounds_toArray, List.set_cons_zero, List.set_cons_succ, i64_w, i32_w]
    rfl
  refine take_ (i := 2) (N := some 39) (v := ?_) (a' := ?_) #[true, true, true, false, false, false, false] rfl rfl (take_ofW HT_.out HW_.out (by kernel_rfl)) (fun _ _ _ h => h) (Or.inl ⟨by rfl, ?_⟩) hHeld ?_ ?_
  rotate_left
  · rintro w' ⟨s0, s1, s2, s3, s4, s5, s6, s7⟩
    go_simp
    with_reducible rfl
  rotate_left
  · simp only [Act.put, List.setIfInBounds_toArray, List.set_cons_zero, List.set_cons_succ, i64_w, i32_w]
    rfl
  refine join_ (σ := Nat × Value × Value) 1 #[true, true, true, true, true, true, false] (fun s_ => [(40, .agg #[.int .i64 op, .int .i64 of, .int .i64 dir]), (41, .agg #[.int .i64 d0, .bool d1, s_.2.1, s_.2.2]), (11, .pointer (some ⟨s_.1, 0, none⟩))]) (fun s_ w' => (w'.cell? ⟨gx, 0, none⟩ = some (.int .i64 n) ∧ w'.cell? ⟨gx, 1, none⟩ = some (.slice A8 lc.length c8) ∧ w'.cell? ⟨gy, 0, none⟩ = some (.bool b) ∧ w'.cell? ⟨gy, 1, none⟩ = some (.slice A11 sc.length c11) ∧ w'.cell? ⟨gy, 2, none⟩ = some (.slice D11 lb.length f11) ∧ w'.cell? ⟨ge, 0, none⟩ = some (.int .i64 op) ∧ w'.cell? ⟨ge, 1, none⟩ = some (.int .i64 of) ∧ w'.cell? ⟨ge, 2, none⟩ = some (.int .i64 dir)) ∧ w'.heap[s_.1]? = some (.cells #[.int .i64 0, .bool false, .slice none 0 0, .slice none 0 0] 48 (0, 0)) ∧ q11.heap.size ≤ s_.1 ∧ Kd.R k50 50 w' q11.heap.size (fun _ => True) s_.2.1 ds ∧ Kd.R Kd.bool 4 w' q11.heap.size (fun _ => True) s_.2.2 dd ∧ Below q11.heap.size q11 w') ?_ ?_
  rotate_left
  · intro hCont
    refine two_ (i := 3) (j := 5) (Ni := some 40) (Nj := some 11) #[true, true, true, true, false, false, false] #[true, true, true, false, false, true, false] rfl rfl rfl rfl (two_of HT_.out (by kernel_rfl)) (by decide) (by decide) (fun K hK => ?_) (fun K hK => ?_)
    · skip
      refine goes_ Try.func35 (by kernel_rfl) rfl #[.agg #[.int .i64 op, .int .i64 of, .int .i64 dir]] (by rfl) rfl rfl (by (try simp only [List.map_toArray, List.map_cons, List.map_nil]); first | done | rfl) ?_
      with_reducible refine (laws_toEvent.calls op of dir op of dir _ ETE.out).mono ?_
      rintro e wx ⟨rfl, hb⟩
      refine ⟨_, rfl, ?_⟩
      have BW := Aside0.mk (below_step BW.out hb)
      refine hK.out _ _ ⟨pw_cell_below hb hHeld.1, pw_cell_below hb hHeld.2.1, pw_cell_below hb hHeld.2.2.1, pw_cell_below hb hHeld.2.2.2.1, pw_cell_below hb hHeld.2.2.2.2.1, pw_cell_below hb hHeld.2.2.2.2.2.1, pw_cell_below hb hHeld.2.2.2.2.2.2.1, pw_cell_below hb hHeld.2.2.2.2.2.2.2⟩ (fun hHeld => ?_)
      clear hb
      clear hK K
      refine norm_ (a' := ?_) ?_ ?_
      rotate_left
      · show Act.put _ (some 40) _ = _
        simp only [Act.put, List.setIfInBounds_toArray, List.set_cons_zero, List.set_cons_succ, i64_w, i32_w]
        rfl
      refine two_ (i := 4) (j := 5) (Ni := some 41) (Nj := some 11) #[true, true, true, true, true, false, false] #[true, true, true, true, false, true, false] rfl rfl rfl rfl (two_of HT_.out (by kernel_rfl)) (by decide) (by decide) (fun K hK => ?_) (fun K hK => ?_)
      · skip
        refine goes_ Try.func70 (by kernel_rfl) rfl #[.agg #[.int .i64 n, .slice A8 lc.length c8], .agg #[.bool b, .slice A11 sc.length c11, .slice D11 lb.length f11], .agg #[.int .i64 op, .int .i64 of, .int .i64 dir]] (by rfl) rfl rfl (by (try simp only [List.map_toArray, List.map_cons, List.map_nil]); first | done | rfl) ?_
        with_reducible refine (ido_at HD.out (Kd.C_below (Kd.R_reads' F73.out).2.2 BW.out) (Kd.R_reads' F73.out).2.1 (Kd.C_below (Kd.R_reads' F75.out).2.2 BW.out) (Kd.R_reads' F75.out).2.1 (Kd.C_below (Kd.R_reads' F76.out).2.2 BW.out) (Kd.R_reads' F76.out).2.1).mono ?_
        rintro e wx ⟨v, v', rfl, ho, ho', hb⟩
        refine ⟨_, rfl, ?_⟩
        have R8 := Aside0.mk (Kd.R_lower ho BW.out.size)
        have R9 := Aside0.mk (Kd.R_lower ho' BW.out.size)
        have BW := Aside0.mk (below_step BW.out hb)
        refine hK.out _ _ ⟨pw_cell_below hb hHeld.1, pw_cell_below hb hHeld.2.1, pw_cell_below hb hHeld.2.2.1, pw_cell_below hb hHeld.2.2.2.1, pw_cell_below hb hHeld.2.2.2.2.1, pw_cell_below hb hHeld.2.2.2.2.2.1, pw_cell_below hb hHeld.2.2.2.2.2.2.1, pw_cell_below hb hHeld.2.2.2.2.2.2.2⟩ (fun hHeld => ?_)
        clear hb ho ho'
        clear hK K
        refine norm_ (a' := ?_) ?_ ?_
        rotate_left
        · show Act.put _ (some 41) _ = _
          simp only [Act.put, List.setIfInBounds_toArray, List.set_cons_zero, List.set_cons_succ, i64_w, i32_w]
          rfl
        refine one_ (i := 5) (N := some 11) #[true, true, true, true, true, true, false] rfl rfl (one_of HT_.out (by kernel_rfl)) (by decide) (fun K hK => ?_)
        refine box_step (N := 11) ?hg ?hd (cs := #[.int .i64 0, .bool false, .slice none 0 0, .slice none 0 0]) (t := 48) ?hr ?_; (case hd => rfl); (case hg => rfl); (case hr => first | (go_simp; done) | (go_simp; rfl))
        intro gb eb wx kb hb
        have R8 := Aside0.mk (Kd.R_below R8.out hb)
        have R9 := Aside0.mk (Kd.R_below R9.out hb)
        have KB := Aside0.mk kb
        have GB := Aside0.mk (show q11.heap.size ≤ gb by rw [eb]; exact BW.out.size)
        have BW := Aside0.mk (below_step BW.out hb)
        refine hK.out _ _ ⟨pw_cell_below hb hHeld.1, pw_cell_below hb hHeld.2.1, pw_cell_below hb hHeld.2.2.1, pw_cell_below hb hHeld.2.2.2.1, pw_cell_below hb hHeld.2.2.2.2.1, pw_cell_below hb hHeld.2.2.2.2.2.1, pw_cell_below hb hHeld.2.2.2.2.2.2.1, pw_cell_below hb hHeld.2.2.2.2.2.2.2⟩ (fun hHeld => ?_)
        clear eb kb hb
        clear hK K
        refine norm_ (a' := ?_) ?_ ?_
        rotate_left
        · show Act.put _ (some 11) _ = _
          simp only [Act.put, List.setIfInBounds_toArray, List.set_cons_zero, List.set_cons_succ, i64_w, i32_w]
          rfl
        exact norm_ (by simp only [putAll, Act.put, List.setIfInBounds_toArray, List.set_cons_zero, List.set_cons_succ] <;> rfl) (hCont (gb, _, _) _ ⟨hHeld, KB.out, GB.out, R8.out, R9.out, BW.out⟩)
      · skip
        refine box_step (N := 11) ?hg ?hd (cs := #[.int .i64 0, .bool false, .slice none 0 0, .slice none 0 0]) (t := 48) ?hr ?_; (case hd => rfl); (case hg => rfl); (case hr => first | (go_simp; done) | (go_simp; rfl))
        intro gb eb wx kb hb
        have KB := Aside0.mk kb
        have GB := Aside0.mk (show q11.heap.size ≤ gb by rw [eb]; exact BW.out.size)
        have BW := Aside0.mk (below_step BW.out hb)
        refine hK.out _ _ ⟨pw_cell_below hb hHeld.1, pw_cell_below hb hHeld.2.1, pw_cell_below hb hHeld.2.2.1, pw_cell_below hb hHeld.2.2.2.1, pw_cell_below hb hHeld.2.2.2.2.1, pw_cell_below hb hHeld.2.2.2.2.2.1, pw_cell_below hb hHeld.2.2.2.2.2.2.1, pw_cell_below hb hHeld.2.2.2.2.2.2.2⟩ (fun hHeld => ?_)
        clear eb kb hb
        clear hK K
        refine norm_ (a' := ?_) ?_ ?_
        rotate_left
        · show Act.put _ (some 11) _ = _
          simp only [Act.put, List.setIfInBounds_toArray, List.set_cons_zero, List.set_cons_succ, i64_w, i32_w]
          rfl
        refine one_ (i := 4) (N := some 41) #[true, true, true, true, true, true, false] rfl rfl (one_of HT_.out (by kernel_rfl)) (by decide) (fun K hK => ?_)
        refine goes_ Try.func70 (by kernel_rfl) rfl #[.agg #[.int .i64 n, .slice A8 lc.length c8], .agg #[.bool b, .slice A11 sc.length c11, .slice D11 lb.length f11], .agg #[.int .i64 op, .int .i64 of, .int .i64 dir]] (by rfl) rfl rfl (by (try simp only [List.map_toArray, List.map_cons, List.map_nil]); first | done | rfl) ?_
        with_reducible refine (ido_at HD.out (Kd.C_below (Kd.R_reads' F73.out).2.2 BW.out) (Kd.R_reads' F73.out).2.1 (Kd.C_below (Kd.R_reads' F75.out).2.2 BW.out) (Kd.R_reads' F75.out).2.1 (Kd.C_below (Kd.R_reads' F76.out).2.2 BW.out) (Kd.R_reads' F76.out).2.1).mono ?_
        rintro e wx ⟨v, v', rfl, ho, ho', hb⟩
        refine ⟨_, rfl, ?_⟩
        have KB := Aside0.mk (blk_below KB.out hb)
        have R8 := Aside0.mk (Kd.R_lower ho BW.out.size)
        have R9 := Aside0.mk (Kd.R_lower ho' BW.out.size)
        have BW := Aside0.mk (below_step BW.out hb)
        refine hK.out _ _ ⟨pw_cell_below hb hHeld.1, pw_cell_below hb hHeld.2.1, pw_cell_below hb hHeld.2.2.1, pw_cell_below hb hHeld.2.2.2.1, pw_cell_below hb hHeld.2.2.2.2.1, pw_cell_below hb hHeld.2.2.2.2.2.1, pw_cell_below hb hHeld.2.2.2.2.2.2.1, pw_cell_below hb hHeld.2.2.2.2.2.2.2⟩ (fun hHeld => ?_)
        clear hb ho ho'
        clear hK K
        refine norm_ (a' := ?_) ?_ ?_
        rotate_left
        · show Act.put _ (some 41) _ = _
          simp only [Act.put, List.setIfInBounds_toArray, List.set_cons_zero, List.set_cons_succ, i64_w, i32_w]
          rfl
        exact norm_ (by simp only [putAll, Act.put, List.setIfInBounds_toArray, List.set_cons_zero, List.set_cons_succ] <;> rfl) (hCont (gb, _, _) _ ⟨hHeld, KB.out, GB.out, R8.out, R9.out, BW.out⟩)
    · skip
      refine box_step (N := 11) ?hg ?hd (cs := #[.int .i64 0, .bool false, .slice none 0 0, .slice none 0 0]) (t := 48) ?hr ?_; (case hd => rfl); (case hg => rfl); (case hr => first | (go_simp; done) | (go_simp; rfl))
      intro gb eb wx kb hb
      have KB := Aside0.mk kb
      have GB := Aside0.mk (show q11.heap.size ≤ gb by rw [eb]; exact BW.out.size)
      have BW := Aside0.mk (below_step BW.out hb)
      refine hK.out _ _ ⟨pw_cell_below hb hHeld.1, pw_cell_below hb hHeld.2.1, pw_cell_below hb hHeld.2.2.1, pw_cell_below hb hHeld.2.2.2.1, pw_cell_below hb hHeld.2.2.2.2.1, pw_cell_below hb hHeld.2.2.2.2.2.1, pw_cell_below hb hHeld.2.2.2.2.2.2.1, pw_cell_below hb hHeld.2.2.2.2.2.2.2⟩ (fun hHeld => ?_)
      clear eb kb hb
      clear hK K
      refine norm_ (a' := ?_) ?_ ?_
      rotate_left
      · show Act.put _ (some 11) _ = _
        simp only [Act.put, List.setIfInBounds_toArray, List.set_cons_zero, List.set_cons_succ, i64_w, i32_w]
        rfl
      refine one_ (i := 3) (N := some 40) #[true, true, true, true, false, true, false] rfl rfl (one_of HT_.out (by kernel_rfl)) (by decide) (fun K hK => ?_)
      refine goes_ Try.func35 (by kernel_rfl) rfl #[.agg #[.int .i64 op, .int .i64 of, .int .i64 dir]] (by rfl) rfl rfl (by (try simp only [List.map_toArray, List.map_cons, List.map_nil]); first | done | rfl) ?_
      with_reducible refine (laws_toEvent.calls op of dir op of dir _ ETE.out).mono ?_
      rintro e wx ⟨rfl, hb⟩
      refine ⟨_, rfl, ?_⟩
      have KB := Aside0.mk (blk_below KB.out hb)
      have BW := Aside0.mk (below_step BW.out hb)
      refine hK.out _ _ ⟨pw_cell_below hb hHeld.1, pw_cell_below hb hHeld.2.1, pw_cell_below hb hHeld.2.2.1, pw_cell_below hb hHeld.2.2.2.1, pw_cell_below hb hHeld.2.2.2.2.1, pw_cell_below hb hHeld.2.2.2.2.2.1, pw_cell_below hb hHeld.2.2.2.2.2.2.1, pw_cell_below hb hHeld.2.2.2.2.2.2.2⟩ (fun hHeld => ?_)
      clear hb
      clear hK K
      refine norm_ (a' := ?_) ?_ ?_
      rotate_left
      · show Act.put _ (some 40) _ = _
        simp only [Act.put, List.setIfInBounds_toArray, List.set_cons_zero, List.set_cons_succ, i64_w, i32_w]
        rfl
      refine one_ (i := 4) (N := some 41) #[true, true, true, true, true, true, false] rfl rfl (one_of HT_.out (by kernel_rfl)) (by decide) (fun K hK => ?_)
      refine goes_ Try.func70 (by kernel_rfl) rfl #[.agg #[.int .i64 n, .slice A8 lc.length c8], .agg #[.bool b, .slice A11 sc.length c11, .slice D11 lb.length f11], .agg #[.int .i64 op, .int .i64 of, .int .i64 dir]] (by rfl) rfl rfl (by (try simp only [List.map_toArray, List.map_cons, List.map_nil]); first | done | rfl) ?_
      with_reducible refine (ido_at HD.out (Kd.C_below (Kd.R_reads' F73.out).2.2 BW.out) (Kd.R_reads' F73.out).2.1 (Kd.C_below (Kd.R_reads' F75.out).2.2 BW.out) (Kd.R_reads' F75.out).2.1 (Kd.C_below (Kd.R_reads' F76.out).2.2 BW.out) (Kd.R_reads' F76.out).2.1).mono ?_
      rintro e wx ⟨v, v', rfl, ho, ho', hb⟩
      refine ⟨_, rfl, ?_⟩
      have KB := Aside0.mk (blk_below KB.out hb)
      have R8 := Aside0.mk (Kd.R_lower ho BW.out.size)
      have R9 := Aside0.mk (Kd.R_lower ho' BW.out.size)
      have BW := Aside0.mk (below_step BW.out hb)
      refine hK.out _ _ ⟨pw_cell_below hb hHeld.1, pw_cell_below hb hHeld.2.1, pw_cell_below hb hHeld.2.2.1, pw_cell_below hb hHeld.2.2.2.1, pw_cell_below hb hHeld.2.2.2.2.1, pw_cell_below hb hHeld.2.2.2.2.2.1, pw_cell_below hb hHeld.2.2.2.2.2.2.1, pw_cell_below hb hHeld.2.2.2.2.2.2.2⟩ (fun hHeld => ?_)
      clear hb ho ho'
      clear hK K
      refine norm_ (a' := ?_) ?_ ?_
      rotate_left
      · show Act.put _ (some 41) _ = _
        simp only [Act.put, List.setIfInBounds_toArray, List.set_cons_zero, List.set_cons_succ, i64_w, i32_w]
        rfl
      exact norm_ (by simp only [putAll, Act.put, List.setIfInBounds_toArray, List.set_cons_zero, List.set_cons_succ] <;> rfl) (hCont (gb, _, _) _ ⟨hHeld, KB.out, GB.out, R8.out, R9.out, BW.out⟩)
  rintro ⟨g11, v8, v9⟩ w14 ⟨hS, kb, gb, h8, h9, hbw⟩
  dsimp only at hS kb gb h8 h9 hbw
  obtain ⟨Bq11, eq11, rfl⟩ := Kd.R_slice h8
  obtain ⟨Dq11, fq11, rfl⟩ := Kd.R_slice h9
  have kb0 : w14.cell? ⟨g11, 0, none⟩ = some (Value.int .i64 0) := (blk_cell kb 0).trans rfl
  have zb0 := blk_frozen kb 0
  have kb1 : w14.cell? ⟨g11, 1, none⟩ = some (Value.bool false) := (blk_cell kb 1).trans rfl
  have zb1 := blk_frozen kb 1
  have kb2 : w14.cell? ⟨g11, 2, none⟩ = some (Value.slice none 0 0) := (blk_cell kb 2).trans rfl
  have zb2 := blk_frozen kb 2
  have kb3 : w14.cell? ⟨g11, 3, none⟩ = some (Value.slice none 0 0) := (blk_cell kb 3).trans rfl
  have zb3 := blk_frozen kb 3
  have KB := Aside0.mk kb
  have GB := Aside0.mk gb
  have R8 := Aside0.mk h8
  have R9 := Aside0.mk h9
  have BW := Aside0.mk hbw
  clear kb gb h8 h9 hbw hHeld
  refine norm_ (a' := ?_) ?_ ?_
  rotate_left
  · simp only [putAll, Act.put, List.setIfInBounds_toArray, List.set_cons_zero, List.set_cons_succ]
    rfl
  refine last_ (i := 6) (N := none) #[true, true, true, true, true, true, true] rfl rfl (one_of HT_.out (by kernel_rfl)) (by decide) (fun K hK => ?_)
  refine skip_ (w1 := ?_) (by rfl) rfl ?_ ?_
  rotate_left
  · go_simp
    rfl
  refine hK.out _ _ ?_
  clear hK K
  refine done_ (done_of HT_.out (by kernel_rfl)) ?_
  clear HT_ HW_ hS kb0 kb1 kb2 kb3 zb0 zb1 zb2 zb3
  have KY := Aside0.mk (blk_put (blk_put (blk_put (blk_put (KB.out) 0 (.int .i64 d0) rfl) 1 (.bool d1) rfl) 2 (.slice Bq11 ds.length eq11) rfl) 3 (.slice Dq11 dd.length fq11) rfl)
  have Q8 := Aside0.mk (Kd.R_set (Kd.R_set (Kd.R_set (Kd.R_set (R8.out) (KB.out) (by decide) 0 (.int .i64 d0)) (blk_put (KB.out) 0 (.int .i64 d0) rfl) (by decide) 1 (.bool d1)) (blk_put (blk_put (KB.out) 0 (.int .i64 d0) rfl) 1 (.bool d1) rfl) (by decide) 2 (.slice Bq11 ds.length eq11)) (blk_put (blk_put (blk_put (KB.out) 0 (.int .i64 d0) rfl) 1 (.bool d1) rfl) 2 (.slice Bq11 ds.length eq11) rfl) (by decide) 3 (.slice Dq11 dd.length fq11))
  have Q9 := Aside0.mk (Kd.R_set (Kd.R_set (Kd.R_set (Kd.R_set (R9.out) (KB.out) (by decide) 0 (.int .i64 d0)) (blk_put (KB.out) 0 (.int .i64 d0) rfl) (by decide) 1 (.bool d1)) (blk_put (blk_put (KB.out) 0 (.int .i64 d0) rfl) 1 (.bool d1) rfl) (by decide) 2 (.slice Bq11 ds.length eq11)) (blk_put (blk_put (blk_put (KB.out) 0 (.int .i64 d0) rfl) 1 (.bool d1) rfl) 2 (.slice Bq11 ds.length eq11) rfl) (by decide) 3 (.slice Dq11 dd.length fq11))
  have BY := Aside0.mk (below_set (j := 3) (v := .slice Dq11 dd.length fq11) (below_set (j := 2) (v := .slice Bq11 ds.length eq11) (below_set (j := 1) (v := .bool d1) (below_set (j := 0) (v := .int .i64 d0) (BW.out) GB.out) GB.out) GB.out) GB.out)
  clear KB R8 R9 BW
  generalize ((((w14.setCell ⟨g11, 0, none⟩ (.int .i64 d0)).setCell ⟨g11, 1, none⟩ (.bool d1)).setCell ⟨g11, 2, none⟩ (.slice Bq11 ds.length eq11)).setCell ⟨g11, 3, none⟩ (.slice Dq11 dd.length fq11)) = w15 at KY Q8 Q9 BY ⊢
  have BSZ := (F66.out).size
  have Z12 : Aside0 (q11.heap.size ≤ w15.heap.size) := ⟨BY.out.size⟩
  have F78 : Aside0 (Below w.heap.size w w15) := ⟨below_step F66.out BY.out⟩
  clear F66
  have F79 : Aside0 (w15.heap[gl]? = some (.cells #[.int .i64 n, .slice A l.length c] 25 (0, 0))) := ⟨blk_below F67.out BY.out⟩
  clear F67
  have F80 : Aside0 (w15.heap[gt]? = some (.cells #[.bool b, .slice A1 ls.length c1, .slice A2 lb.length c2] 77 (0, 0))) := ⟨blk_below F68.out BY.out⟩
  clear F68
  have F81 : Aside0 (w15.heap[ge]? = some (.cells #[.int .i64 op, .int .i64 of, .int .i64 dir] 54 (0, 0))) := ⟨blk_below F69.out BY.out⟩
  clear F69
  have F82 : Aside0 (Kd.R k50 50 w15 w.heap.size (fun k => q8.heap.size ≤ k ∧ k < w7.heap.size) (.slice Bq8 ds.length eq8) ds) := ⟨Kd.R_below F70.out BY.out⟩
  clear F70
  have F83 : Aside0 (Kd.R Kd.bool 4 w15 w.heap.size (fun k => q8.heap.size ≤ k ∧ k < w7.heap.size) (.slice Dq8 dd.length fq8) dd) := ⟨Kd.R_below F71.out BY.out⟩
  clear F71
  have F84 : Aside0 (w15.heap[g8]? = some (.cells #[.int .i64 d0, .bool d1, .slice Bq8 ds.length eq8, .slice Dq8 dd.length fq8] 48 (0, 0))) := ⟨blk_below F72.out BY.out⟩
  clear F72
  have F85 : Aside0 (Kd.R k88 88 w15 w.heap.size (fun k => w7.heap.size ≤ k ∧ k < w8.heap.size) (.slice A8 lc.length c8) lc) := ⟨Kd.R_below F73.out BY.out⟩
  clear F73
  have F86 : Aside0 (w15.heap[gx]? = some (.cells #[.int .i64 n, .slice A8 lc.length c8] 30 (0, 0))) := ⟨blk_below F74.out BY.out⟩
  clear F74
  have F87 : Aside0 (Kd.R k50 50 w15 w.heap.size (fun k => w10.heap.size ≤ k ∧ k < w11.heap.size) (.slice A11 sc.length c11) sc) := ⟨Kd.R_below F75.out BY.out⟩
  clear F75
  have F88 : Aside0 (Kd.R Kd.bool 4 w15 w.heap.size (fun k => w10.heap.size ≤ k ∧ k < w11.heap.size) (.slice D11 lb.length f11) lb) := ⟨Kd.R_below F76.out BY.out⟩
  clear F76
  have F89 : Aside0 (w15.heap[gy]? = some (.cells #[.bool b, .slice A11 sc.length c11, .slice D11 lb.length f11] 46 (0, 0))) := ⟨blk_below F77.out BY.out⟩
  clear F77
  have h8 := Q8.out
  have h9 := Q9.out
  have G0B := Aside0.mk KY.out
  have G0H : Aside0 (g11 < w15.heap.size) := ⟨blk_lt KY.out⟩
  have G0G := Aside0.mk GB.out
  clear KY Q8 Q9 BY GB
  have F90 : Aside0 (Kd.R k50 50 w15 w.heap.size (fun k => q11.heap.size ≤ k ∧ k < w15.heap.size) (.slice Bq11 ds.length eq11) ds) := ⟨Kd.R_mono (Kd.R_lower (Kd.R_bound h8) BSZ) (fun k hq => ⟨hq.2.1, hq.2.2.1⟩)⟩
  clear h8
  have F91 : Aside0 (Kd.R Kd.bool 4 w15 w.heap.size (fun k => q11.heap.size ≤ k ∧ k < w15.heap.size) (.slice Dq11 dd.length fq11) dd) := ⟨Kd.R_mono (Kd.R_lower (Kd.R_bound h9) BSZ) (fun k hq => ⟨hq.2.1, hq.2.2.1⟩)⟩
  clear h9
  clear BSZ
  go_upto_region 12 with fail
  have kg0 : w15.cell? ⟨g11, 0, none⟩ = some (.int .i64 d0) := (blk_cell G0B.out 0).trans rfl
  have kg1 : w15.cell? ⟨g11, 1, none⟩ = some (.bool d1) := (blk_cell G0B.out 1).trans rfl
  have kg2 : w15.cell? ⟨g11, 2, none⟩ = some (.slice Bq11 ds.length eq11) := (blk_cell G0B.out 2).trans rfl
  have kg3 : w15.cell? ⟨g11, 3, none⟩ = some (.slice Dq11 dd.length fq11) := (blk_cell G0B.out 3).trans rfl
  have kw0 : w15.cell? ⟨g8, 0, none⟩ = some (.int .i64 d0) := (blk_cell F84.out 0).trans rfl
  have kw1 : w15.cell? ⟨g8, 1, none⟩ = some (.bool d1) := (blk_cell F84.out 1).trans rfl
  have kw2 : w15.cell? ⟨g8, 2, none⟩ = some (.slice Bq8 ds.length eq8) := (blk_cell F84.out 2).trans rfl
  have kw3 : w15.cell? ⟨g8, 3, none⟩ = some (.slice Dq8 dd.length fq8) := (blk_cell F84.out 3).trans rfl
  go_upto_region 14 with (go_at_call 71; refine (eqD_at HDS.out HDD.out (Kd.R_reads' F90.out).2.2 (Kd.R_reads' F90.out).2.1 (Kd.R_reads' F91.out).2.2 (Kd.R_reads' F91.out).2.1 (Kd.R_reads' F82.out).2.2 (Kd.R_reads' F82.out).2.1 (Kd.R_reads' F83.out).2.2 (Kd.R_reads' F83.out).2.1).mono ?_; rintro e w16 ⟨rfl, hb⟩; have Z13 : Aside0 (w15.heap.size ≤ w16.heap.size) := ⟨hb.size⟩; have F92 : Aside0 (Below w.heap.size w w16) := ⟨below_step F78.out hb⟩; clear F78; have F93 : Aside0 (w16.heap[gl]? = some (.cells #[.int .i64 n, .slice A l.length c] 25 (0, 0))) := ⟨blk_below F79.out hb⟩; clear F79; have F94 : Aside0 (w16.heap[gt]? = some (.cells #[.bool b, .slice A1 ls.length c1, .slice A2 lb.length c2] 77 (0, 0))) := ⟨blk_below F80.out hb⟩; clear F80; have F95 : Aside0 (w16.heap[ge]? = some (.cells #[.int .i64 op, .int .i64 of, .int .i64 dir] 54 (0, 0))) := ⟨blk_below F81.out hb⟩; clear F81; have F96 : Aside0 (Kd.R k50 50 w16 w.heap.size (fun k => q8.heap.size ≤ k ∧ k < w7.heap.size) (.slice Bq8 ds.length eq8) ds) := ⟨Kd.R_below F82.out hb⟩; clear F82; have F97 : Aside0 (Kd.R Kd.bool 4 w16 w.heap.size (fun k => q8.heap.size ≤ k ∧ k < w7.heap.size) (.slice Dq8 dd.length fq8) dd) := ⟨Kd.R_below F83.out hb⟩; clear F83; have F98 : Aside0 (w16.heap[g8]? = some (.cells #[.int .i64 d0, .bool d1, .slice Bq8 ds.length eq8, .slice Dq8 dd.length fq8] 48 (0, 0))) := ⟨blk_below F84.out hb⟩; clear F84; have F99 : Aside0 (Kd.R k88 88 w16 w.heap.size (fun k => w7.heap.size ≤ k ∧ k < w8.heap.size) (.slice A8 lc.length c8) lc) := ⟨Kd.R_below F85.out hb⟩; clear F85; have F100 : Aside0 (w16.heap[gx]? = some (.cells #[.int .i64 n, .slice A8 lc.length c8] 30 (0, 0))) := ⟨blk_below F86.out hb⟩; clear F86; have F101 : Aside0 (Kd.R k50 50 w16 w.heap.size (fun k => w10.heap.size ≤ k ∧ k < w11.heap.size) (.slice A11 sc.length c11) sc) := ⟨Kd.R_below F87.out hb⟩; clear F87; have F102 : Aside0 (Kd.R Kd.bool 4 w16 w.heap.size (fun k => w10.heap.size ≤ k ∧ k < w11.heap.size) (.slice D11 lb.length f11) lb) := ⟨Kd.R_below F88.out hb⟩; clear F88; have F103 : Aside0 (w16.heap[gy]? = some (.cells #[.bool b, .slice A11 sc.length c11, .slice D11 lb.length f11] 46 (0, 0))) := ⟨blk_below F89.out hb⟩; clear F89; have F104 : Aside0 (Kd.R k50 50 w16 w.heap.size (fun k => q11.heap.size ≤ k ∧ k < w15.heap.size) (.slice Bq11 ds.length eq11) ds) := ⟨Kd.R_below F90.out hb⟩; clear F90; have F105 : Aside0 (Kd.R Kd.bool 4 w16 w.heap.size (fun k => q11.heap.size ≤ k ∧ k < w15.heap.size) (.slice Dq11 dd.length fq11) dd) := ⟨Kd.R_below F91.out hb⟩; clear F91; have F106 : Aside0 (w16.heap[g11]? = some (.cells #[.int .i64 d0, .bool d1, .slice Bq11 ds.length eq11, .slice Dq11 dd.length fq11] 48 (0, 0))) := ⟨blk_below G0B.out hb⟩; clear G0B; clear hb)
  clear kg0 kg1 kg2 kg3 kw0 kw1 kw2 kw3
  have kx0 : w16.cell? ⟨gx, 0, none⟩ = some (.int .i64 n) := (blk_cell F100.out 0).trans rfl
  have kx1 : w16.cell? ⟨gx, 1, none⟩ = some (.slice A8 lc.length c8) := (blk_cell F100.out 1).trans rfl
  have kl0 : w16.cell? ⟨gl, 0, none⟩ = some (.int .i64 n) := (blk_cell F93.out 0).trans rfl
  have kl1 : w16.cell? ⟨gl, 1, none⟩ = some (.slice A l.length c) := (blk_cell F93.out 1).trans rfl
  have Z14 : Aside0 (w16.heap.size ≤ w16.drew.heap.size) := ⟨(below_drew1 (Below.refl w16.heap.size w16)).size⟩
  have F107 : Aside0 (Below w.heap.size w w16.drew) := ⟨below_step F92.out (below_drew1 (Below.refl w16.heap.size w16))⟩
  clear F92
  have F108 : Aside0 (w16.drew.heap[gl]? = some (.cells #[.int .i64 n, .slice A l.length c] 25 (0, 0))) := ⟨blk_below F93.out (below_drew1 (Below.refl w16.heap.size w16))⟩
  clear F93
  have F109 : Aside0 (w16.drew.heap[gt]? = some (.cells #[.bool b, .slice A1 ls.length c1, .slice A2 lb.length c2] 77 (0, 0))) := ⟨blk_below F94.out (below_drew1 (Below.refl w16.heap.size w16))⟩
  clear F94
  have F110 : Aside0 (w16.drew.heap[ge]? = some (.cells #[.int .i64 op, .int .i64 of, .int .i64 dir] 54 (0, 0))) := ⟨blk_below F95.out (below_drew1 (Below.refl w16.heap.size w16))⟩
  clear F95
  have F111 : Aside0 (Kd.R k50 50 w16.drew w.heap.size (fun k => q8.heap.size ≤ k ∧ k < w7.heap.size) (.slice Bq8 ds.length eq8) ds) := ⟨Kd.R_below F96.out (below_drew1 (Below.refl w16.heap.size w16))⟩
  clear F96
  have F112 : Aside0 (Kd.R Kd.bool 4 w16.drew w.heap.size (fun k => q8.heap.size ≤ k ∧ k < w7.heap.size) (.slice Dq8 dd.length fq8) dd) := ⟨Kd.R_below F97.out (below_drew1 (Below.refl w16.heap.size w16))⟩
  clear F97
  have F113 : Aside0 (w16.drew.heap[g8]? = some (.cells #[.int .i64 d0, .bool d1, .slice Bq8 ds.length eq8, .slice Dq8 dd.length fq8] 48 (0, 0))) := ⟨blk_below F98.out (below_drew1 (Below.refl w16.heap.size w16))⟩
  clear F98
  have F114 : Aside0 (Kd.R k88 88 w16.drew w.heap.size (fun k => w7.heap.size ≤ k ∧ k < w8.heap.size) (.slice A8 lc.length c8) lc) := ⟨Kd.R_below F99.out (below_drew1 (Below.refl w16.heap.size w16))⟩
  clear F99
  have F115 : Aside0 (w16.drew.heap[gx]? = some (.cells #[.int .i64 n, .slice A8 lc.length c8] 30 (0, 0))) := ⟨blk_below F100.out (below_drew1 (Below.refl w16.heap.size w16))⟩
  clear F100
  have F116 : Aside0 (Kd.R k50 50 w16.drew w.heap.size (fun k => w10.heap.size ≤ k ∧ k < w11.heap.size) (.slice A11 sc.length c11) sc) := ⟨Kd.R_below F101.out (below_drew1 (Below.refl w16.heap.size w16))⟩
  clear F101
  have F117 : Aside0 (Kd.R Kd.bool 4 w16.drew w.heap.size (fun k => w10.heap.size ≤ k ∧ k < w11.heap.size) (.slice D11 lb.length f11) lb) := ⟨Kd.R_below F102.out (below_drew1 (Below.refl w16.heap.size w16))⟩
  clear F102
  have F118 : Aside0 (w16.drew.heap[gy]? = some (.cells #[.bool b, .slice A11 sc.length c11, .slice D11 lb.length f11] 46 (0, 0))) := ⟨blk_below F103.out (below_drew1 (Below.refl w16.heap.size w16))⟩
  clear F103
  have F119 : Aside0 (Kd.R k50 50 w16.drew w.heap.size (fun k => q11.heap.size ≤ k ∧ k < w15.heap.size) (.slice Bq11 ds.length eq11) ds) := ⟨Kd.R_below F104.out (below_drew1 (Below.refl w16.heap.size w16))⟩
  clear F104
  have F120 : Aside0 (Kd.R Kd.bool 4 w16.drew w.heap.size (fun k => q11.heap.size ≤ k ∧ k < w15.heap.size) (.slice Dq11 dd.length fq11) dd) := ⟨Kd.R_below F105.out (below_drew1 (Below.refl w16.heap.size w16))⟩
  clear F105
  have F121 : Aside0 (w16.drew.heap[g11]? = some (.cells #[.int .i64 d0, .bool d1, .slice Bq11 ds.length eq11, .slice Dq11 dd.length fq11] 48 (0, 0))) := ⟨blk_below F106.out (below_drew1 (Below.refl w16.heap.size w16))⟩
  clear F106
  go_region_held3 (fun w' => w'.cell? ⟨gx, 0, none⟩ = some (.int .i64 n) ∧ w'.cell? ⟨gx, 1, none⟩ = some (.slice A8 lc.length c8) ∧ w'.cell? ⟨gl, 0, none⟩ = some (.int .i64 n) ∧ w'.cell? ⟨gl, 1, none⟩ = some (.slice A l.length c))
    (first | go_keep | (go_split_ands; (repeat' apply And.intro) <;> (refine pw_cell_below hbk.out ?_; assumption)))
    (first | (go_at_call 24; refine (laws_toLayout.calls kTL n A c l n lc _ (Kd.C_below HR.out F107.out) HC.out ETL.out).mono ?_; rintro e w17 ⟨v, rfl, ho, hb⟩; have BSZ := (F107.out).size; have Z15 : Aside0 (w16.drew.heap.size ≤ w17.heap.size) := ⟨hb.size⟩; have F122 : Aside0 (Below w.heap.size w w17) := ⟨below_step F107.out hb⟩; clear F107; have F123 : Aside0 (w17.heap[gl]? = some (.cells #[.int .i64 n, .slice A l.length c] 25 (0, 0))) := ⟨blk_below F108.out hb⟩; clear F108; have F124 : Aside0 (w17.heap[gt]? = some (.cells #[.bool b, .slice A1 ls.length c1, .slice A2 lb.length c2] 77 (0, 0))) := ⟨blk_below F109.out hb⟩; clear F109; have F125 : Aside0 (w17.heap[ge]? = some (.cells #[.int .i64 op, .int .i64 of, .int .i64 dir] 54 (0, 0))) := ⟨blk_below F110.out hb⟩; clear F110; have F126 : Aside0 (Kd.R k50 50 w17 w.heap.size (fun k => q8.heap.size ≤ k ∧ k < w7.heap.size) (.slice Bq8 ds.length eq8) ds) := ⟨Kd.R_below F111.out hb⟩; clear F111; have F127 : Aside0 (Kd.R Kd.bool 4 w17 w.heap.size (fun k => q8.heap.size ≤ k ∧ k < w7.heap.size) (.slice Dq8 dd.length fq8) dd) := ⟨Kd.R_below F112.out hb⟩; clear F112; have F128 : Aside0 (w17.heap[g8]? = some (.cells #[.int .i64 d0, .bool d1, .slice Bq8 ds.length eq8, .slice Dq8 dd.length fq8] 48 (0, 0))) := ⟨blk_below F113.out hb⟩; clear F113; have F129 : Aside0 (Kd.R k88 88 w17 w.heap.size (fun k => w7.heap.size ≤ k ∧ k < w8.heap.size) (.slice A8 lc.length c8) lc) := ⟨Kd.R_below F114.out hb⟩; clear F114; have F130 : Aside0 (w17.heap[gx]? = some (.cells #[.int .i64 n, .slice A8 lc.length c8] 30 (0, 0))) := ⟨blk_below F115.out hb⟩; clear F115; have F131 : Aside0 (Kd.R k50 50 w17 w.heap.size (fun k => w10.heap.size ≤ k ∧ k < w11.heap.size) (.slice A11 sc.length c11) sc) := ⟨Kd.R_below F116.out hb⟩; clear F116; have F132 : Aside0 (Kd.R Kd.bool 4 w17 w.heap.size (fun k => w10.heap.size ≤ k ∧ k < w11.heap.size) (.slice D11 lb.length f11) lb) := ⟨Kd.R_below F117.out hb⟩; clear F117; have F133 : Aside0 (w17.heap[gy]? = some (.cells #[.bool b, .slice A11 sc.length c11, .slice D11 lb.length f11] 46 (0, 0))) := ⟨blk_below F118.out hb⟩; clear F118; have F134 : Aside0 (Kd.R k50 50 w17 w.heap.size (fun k => q11.heap.size ≤ k ∧ k < w15.heap.size) (.slice Bq11 ds.length eq11) ds) := ⟨Kd.R_below F119.out hb⟩; clear F119; have F135 : Aside0 (Kd.R Kd.bool 4 w17 w.heap.size (fun k => q11.heap.size ≤ k ∧ k < w15.heap.size) (.slice Dq11 dd.length fq11) dd) := ⟨Kd.R_below F120.out hb⟩; clear F120; have F136 : Aside0 (w17.heap[g11]? = some (.cells #[.int .i64 d0, .bool d1, .slice Bq11 ds.length eq11, .slice Dq11 dd.length fq11] 48 (0, 0))) := ⟨blk_below F121.out hb⟩; clear F121; obtain ⟨A17, c17, rfl⟩ := Kd.R_slice ho; have F137 : Aside0 (Kd.R k88 88 w17 w.heap.size (fun k => w16.drew.heap.size ≤ k ∧ k < w17.heap.size) (.slice A17 lc.length c17) lc) := ⟨Kd.R_mono (Kd.R_lower (Kd.R_bound ho) BSZ) (fun k hq => ⟨hq.2.1, hq.2.2.1⟩)⟩; clear ho; have hbk := Aside0.mk hb; clear hb BSZ) | (go_at_call 26; refine (laws_eqLayout.calls kEL n _ _ lc n _ _ lc true _ (Kd.R_reads' F129.out).2.2 (Kd.R_reads' F129.out).2.1 (Kd.R_reads' F137.out).2.2 (Kd.R_reads' F137.out).2.1 EEL.out).mono ?_; rintro e w18 ⟨rfl, hb⟩; have Z16 : Aside0 (w17.heap.size ≤ w18.heap.size) := ⟨hb.size⟩; have F138 : Aside0 (Below w.heap.size w w18) := ⟨below_step F122.out hb⟩; clear F122; have F139 : Aside0 (w18.heap[gl]? = some (.cells #[.int .i64 n, .slice A l.length c] 25 (0, 0))) := ⟨blk_below F123.out hb⟩; clear F123; have F140 : Aside0 (w18.heap[gt]? = some (.cells #[.bool b, .slice A1 ls.length c1, .slice A2 lb.length c2] 77 (0, 0))) := ⟨blk_below F124.out hb⟩; clear F124; have F141 : Aside0 (w18.heap[ge]? = some (.cells #[.int .i64 op, .int .i64 of, .int .i64 dir] 54 (0, 0))) := ⟨blk_below F125.out hb⟩; clear F125; have F142 : Aside0 (Kd.R k50 50 w18 w.heap.size (fun k => q8.heap.size ≤ k ∧ k < w7.heap.size) (.slice Bq8 ds.length eq8) ds) := ⟨Kd.R_below F126.out hb⟩; clear F126; have F143 : Aside0 (Kd.R Kd.bool 4 w18 w.heap.size (fun k => q8.heap.size ≤ k ∧ k < w7.heap.size) (.slice Dq8 dd.length fq8) dd) := ⟨Kd.R_below F127.out hb⟩; clear F127; have F144 : Aside0 (w18.heap[g8]? = some (.cells #[.int .i64 d0, .bool d1, .slice Bq8 ds.length eq8, .slice Dq8 dd.length fq8] 48 (0, 0))) := ⟨blk_below F128.out hb⟩; clear F128; have F145 : Aside0 (Kd.R k88 88 w18 w.heap.size (fun k => w7.heap.size ≤ k ∧ k < w8.heap.size) (.slice A8 lc.length c8) lc) := ⟨Kd.R_below F129.out hb⟩; clear F129; have F146 : Aside0 (w18.heap[gx]? = some (.cells #[.int .i64 n, .slice A8 lc.length c8] 30 (0, 0))) := ⟨blk_below F130.out hb⟩; clear F130; have F147 : Aside0 (Kd.R k50 50 w18 w.heap.size (fun k => w10.heap.size ≤ k ∧ k < w11.heap.size) (.slice A11 sc.length c11) sc) := ⟨Kd.R_below F131.out hb⟩; clear F131; have F148 : Aside0 (Kd.R Kd.bool 4 w18 w.heap.size (fun k => w10.heap.size ≤ k ∧ k < w11.heap.size) (.slice D11 lb.length f11) lb) := ⟨Kd.R_below F132.out hb⟩; clear F132; have F149 : Aside0 (w18.heap[gy]? = some (.cells #[.bool b, .slice A11 sc.length c11, .slice D11 lb.length f11] 46 (0, 0))) := ⟨blk_below F133.out hb⟩; clear F133; have F150 : Aside0 (Kd.R k50 50 w18 w.heap.size (fun k => q11.heap.size ≤ k ∧ k < w15.heap.size) (.slice Bq11 ds.length eq11) ds) := ⟨Kd.R_below F134.out hb⟩; clear F134; have F151 : Aside0 (Kd.R Kd.bool 4 w18 w.heap.size (fun k => q11.heap.size ≤ k ∧ k < w15.heap.size) (.slice Dq11 dd.length fq11) dd) := ⟨Kd.R_below F135.out hb⟩; clear F135; have F152 : Aside0 (w18.heap[g11]? = some (.cells #[.int .i64 d0, .bool d1, .slice Bq11 ds.length eq11, .slice Dq11 dd.length fq11] 48 (0, 0))) := ⟨blk_below F136.out hb⟩; clear F136; have F153 : Aside0 (Kd.R k88 88 w18 w.heap.size (fun k => w16.drew.heap.size ≤ k ∧ k < w17.heap.size) (.slice A17 lc.length c17) lc) := ⟨Kd.R_below F137.out hb⟩; clear F137; have hbk := Aside0.mk hb; clear hb))
  clear kx0 kx1 kl0 kl1
  clear F153
  go_upto_region 16 with fail
  have ky0 : w18.cell? ⟨gy, 0, none⟩ = some (.bool b) := (blk_cell F149.out 0).trans rfl
  have ky1 : w18.cell? ⟨gy, 1, none⟩ = some (.slice A11 sc.length c11) := (blk_cell F149.out 1).trans rfl
  have ky2 : w18.cell? ⟨gy, 2, none⟩ = some (.slice D11 lb.length f11) := (blk_cell F149.out 2).trans rfl
  have kt0 : w18.cell? ⟨gt, 0, none⟩ = some (.bool b) := (blk_cell F140.out 0).trans rfl
  have kt1 : w18.cell? ⟨gt, 1, none⟩ = some (.slice A1 ls.length c1) := (blk_cell F140.out 1).trans rfl
  have kt2 : w18.cell? ⟨gt, 2, none⟩ = some (.slice A2 lb.length c2) := (blk_cell F140.out 2).trans rfl
  have Z17 : Aside0 (w18.heap.size ≤ w18.drew.heap.size) := ⟨(below_drew1 (Below.refl w18.heap.size w18)).size⟩
  have F154 : Aside0 (Below w.heap.size w w18.drew) := ⟨below_step F138.out (below_drew1 (Below.refl w18.heap.size w18))⟩
  clear F138
  have F155 : Aside0 (w18.drew.heap[gl]? = some (.cells #[.int .i64 n, .slice A l.length c] 25 (0, 0))) := ⟨blk_below F139.out (below_drew1 (Below.refl w18.heap.size w18))⟩
  clear F139
  have F156 : Aside0 (w18.drew.heap[gt]? = some (.cells #[.bool b, .slice A1 ls.length c1, .slice A2 lb.length c2] 77 (0, 0))) := ⟨blk_below F140.out (below_drew1 (Below.refl w18.heap.size w18))⟩
  clear F140
  have F157 : Aside0 (w18.drew.heap[ge]? = some (.cells #[.int .i64 op, .int .i64 of, .int .i64 dir] 54 (0, 0))) := ⟨blk_below F141.out (below_drew1 (Below.refl w18.heap.size w18))⟩
  clear F141
  have F158 : Aside0 (Kd.R k50 50 w18.drew w.heap.size (fun k => q8.heap.size ≤ k ∧ k < w7.heap.size) (.slice Bq8 ds.length eq8) ds) := ⟨Kd.R_below F142.out (below_drew1 (Below.refl w18.heap.size w18))⟩
  clear F142
  have F159 : Aside0 (Kd.R Kd.bool 4 w18.drew w.heap.size (fun k => q8.heap.size ≤ k ∧ k < w7.heap.size) (.slice Dq8 dd.length fq8) dd) := ⟨Kd.R_below F143.out (below_drew1 (Below.refl w18.heap.size w18))⟩
  clear F143
  have F160 : Aside0 (w18.drew.heap[g8]? = some (.cells #[.int .i64 d0, .bool d1, .slice Bq8 ds.length eq8, .slice Dq8 dd.length fq8] 48 (0, 0))) := ⟨blk_below F144.out (below_drew1 (Below.refl w18.heap.size w18))⟩
  clear F144
  have F161 : Aside0 (Kd.R k88 88 w18.drew w.heap.size (fun k => w7.heap.size ≤ k ∧ k < w8.heap.size) (.slice A8 lc.length c8) lc) := ⟨Kd.R_below F145.out (below_drew1 (Below.refl w18.heap.size w18))⟩
  clear F145
  have F162 : Aside0 (w18.drew.heap[gx]? = some (.cells #[.int .i64 n, .slice A8 lc.length c8] 30 (0, 0))) := ⟨blk_below F146.out (below_drew1 (Below.refl w18.heap.size w18))⟩
  clear F146
  have F163 : Aside0 (Kd.R k50 50 w18.drew w.heap.size (fun k => w10.heap.size ≤ k ∧ k < w11.heap.size) (.slice A11 sc.length c11) sc) := ⟨Kd.R_below F147.out (below_drew1 (Below.refl w18.heap.size w18))⟩
  clear F147
  have F164 : Aside0 (Kd.R Kd.bool 4 w18.drew w.heap.size (fun k => w10.heap.size ≤ k ∧ k < w11.heap.size) (.slice D11 lb.length f11) lb) := ⟨Kd.R_below F148.out (below_drew1 (Below.refl w18.heap.size w18))⟩
  clear F148
  have F165 : Aside0 (w18.drew.heap[gy]? = some (.cells #[.bool b, .slice A11 sc.length c11, .slice D11 lb.length f11] 46 (0, 0))) := ⟨blk_below F149.out (below_drew1 (Below.refl w18.heap.size w18))⟩
  clear F149
  have F166 : Aside0 (Kd.R k50 50 w18.drew w.heap.size (fun k => q11.heap.size ≤ k ∧ k < w15.heap.size) (.slice Bq11 ds.length eq11) ds) := ⟨Kd.R_below F150.out (below_drew1 (Below.refl w18.heap.size w18))⟩
  clear F150
  have F167 : Aside0 (Kd.R Kd.bool 4 w18.drew w.heap.size (fun k => q11.heap.size ≤ k ∧ k < w15.heap.size) (.slice Dq11 dd.length fq11) dd) := ⟨Kd.R_below F151.out (below_drew1 (Below.refl w18.heap.size w18))⟩
  clear F151
  have F168 : Aside0 (w18.drew.heap[g11]? = some (.cells #[.int .i64 d0, .bool d1, .slice Bq11 ds.length eq11, .slice Dq11 dd.length fq11] 48 (0, 0))) := ⟨blk_below F152.out (below_drew1 (Below.refl w18.heap.size w18))⟩
  clear F152
  go_region_held3 (fun w' => w'.cell? ⟨gy, 0, none⟩ = some (.bool b) ∧ w'.cell? ⟨gy, 1, none⟩ = some (.slice A11 sc.length c11) ∧ w'.cell? ⟨gy, 2, none⟩ = some (.slice D11 lb.length f11) ∧ w'.cell? ⟨gt, 0, none⟩ = some (.bool b) ∧ w'.cell? ⟨gt, 1, none⟩ = some (.slice A1 ls.length c1) ∧ w'.cell? ⟨gt, 2, none⟩ = some (.slice A2 lb.length c2))
    (first | go_keep | (go_split_ands; (repeat' apply And.intro) <;> (refine pw_cell_below hbk.out ?_; assumption)))
    (first | (go_at_call 57; refine (laws_toState.calls kTS b A1 c1 ls A2 c2 lb b sc lb _ (Kd.C_below HE.out F154.out) HEC.out (Kd.C_below HI.out F154.out) HIC.out ETS.out).mono ?_; rintro e w19 ⟨v, v', rfl, ho, ho', hb⟩; have BSZ := (F154.out).size; have Z18 : Aside0 (w18.drew.heap.size ≤ w19.heap.size) := ⟨hb.size⟩; have F169 : Aside0 (Below w.heap.size w w19) := ⟨below_step F154.out hb⟩; clear F154; have F170 : Aside0 (w19.heap[gl]? = some (.cells #[.int .i64 n, .slice A l.length c] 25 (0, 0))) := ⟨blk_below F155.out hb⟩; clear F155; have F171 : Aside0 (w19.heap[gt]? = some (.cells #[.bool b, .slice A1 ls.length c1, .slice A2 lb.length c2] 77 (0, 0))) := ⟨blk_below F156.out hb⟩; clear F156; have F172 : Aside0 (w19.heap[ge]? = some (.cells #[.int .i64 op, .int .i64 of, .int .i64 dir] 54 (0, 0))) := ⟨blk_below F157.out hb⟩; clear F157; have F173 : Aside0 (Kd.R k50 50 w19 w.heap.size (fun k => q8.heap.size ≤ k ∧ k < w7.heap.size) (.slice Bq8 ds.length eq8) ds) := ⟨Kd.R_below F158.out hb⟩; clear F158; have F174 : Aside0 (Kd.R Kd.bool 4 w19 w.heap.size (fun k => q8.heap.size ≤ k ∧ k < w7.heap.size) (.slice Dq8 dd.length fq8) dd) := ⟨Kd.R_below F159.out hb⟩; clear F159; have F175 : Aside0 (w19.heap[g8]? = some (.cells #[.int .i64 d0, .bool d1, .slice Bq8 ds.length eq8, .slice Dq8 dd.length fq8] 48 (0, 0))) := ⟨blk_below F160.out hb⟩; clear F160; have F176 : Aside0 (Kd.R k88 88 w19 w.heap.size (fun k => w7.heap.size ≤ k ∧ k < w8.heap.size) (.slice A8 lc.length c8) lc) := ⟨Kd.R_below F161.out hb⟩; clear F161; have F177 : Aside0 (w19.heap[gx]? = some (.cells #[.int .i64 n, .slice A8 lc.length c8] 30 (0, 0))) := ⟨blk_below F162.out hb⟩; clear F162; have F178 : Aside0 (Kd.R k50 50 w19 w.heap.size (fun k => w10.heap.size ≤ k ∧ k < w11.heap.size) (.slice A11 sc.length c11) sc) := ⟨Kd.R_below F163.out hb⟩; clear F163; have F179 : Aside0 (Kd.R Kd.bool 4 w19 w.heap.size (fun k => w10.heap.size ≤ k ∧ k < w11.heap.size) (.slice D11 lb.length f11) lb) := ⟨Kd.R_below F164.out hb⟩; clear F164; have F180 : Aside0 (w19.heap[gy]? = some (.cells #[.bool b, .slice A11 sc.length c11, .slice D11 lb.length f11] 46 (0, 0))) := ⟨blk_below F165.out hb⟩; clear F165; have F181 : Aside0 (Kd.R k50 50 w19 w.heap.size (fun k => q11.heap.size ≤ k ∧ k < w15.heap.size) (.slice Bq11 ds.length eq11) ds) := ⟨Kd.R_below F166.out hb⟩; clear F166; have F182 : Aside0 (Kd.R Kd.bool 4 w19 w.heap.size (fun k => q11.heap.size ≤ k ∧ k < w15.heap.size) (.slice Dq11 dd.length fq11) dd) := ⟨Kd.R_below F167.out hb⟩; clear F167; have F183 : Aside0 (w19.heap[g11]? = some (.cells #[.int .i64 d0, .bool d1, .slice Bq11 ds.length eq11, .slice Dq11 dd.length fq11] 48 (0, 0))) := ⟨blk_below F168.out hb⟩; clear F168; obtain ⟨A19, c19, rfl⟩ := Kd.R_slice ho; obtain ⟨D19, f19, rfl⟩ := Kd.R_slice ho'; have F184 : Aside0 (Kd.R k50 50 w19 w.heap.size (fun k => w18.drew.heap.size ≤ k ∧ k < w19.heap.size) (.slice A19 sc.length c19) sc) := ⟨Kd.R_mono (Kd.R_lower (Kd.R_bound ho) BSZ) (fun k hq => ⟨hq.2.1, hq.2.2.1⟩)⟩; clear ho; have F185 : Aside0 (Kd.R Kd.bool 4 w19 w.heap.size (fun k => w18.drew.heap.size ≤ k ∧ k < w19.heap.size) (.slice D19 lb.length f19) lb) := ⟨Kd.R_mono (Kd.R_lower (Kd.R_bound ho') BSZ) (fun k hq => ⟨hq.2.1, hq.2.2.1⟩)⟩; clear ho'; have hbk := Aside0.mk hb; clear hb BSZ) | (go_at_call 45; refine (laws_eqState.calls kES b _ _ sc _ _ lb b _ _ sc _ _ lb true _ (Kd.R_reads' F178.out).2.2 (Kd.R_reads' F178.out).2.1 (Kd.R_reads' F179.out).2.2 (Kd.R_reads' F179.out).2.1 (Kd.R_reads' F184.out).2.2 (Kd.R_reads' F184.out).2.1 (Kd.R_reads' F185.out).2.2 (Kd.R_reads' F185.out).2.1 EES.out).mono ?_; rintro e w20 ⟨rfl, hb⟩; have Z19 : Aside0 (w19.heap.size ≤ w20.heap.size) := ⟨hb.size⟩; have F186 : Aside0 (Below w.heap.size w w20) := ⟨below_step F169.out hb⟩; clear F169; have F187 : Aside0 (w20.heap[gl]? = some (.cells #[.int .i64 n, .slice A l.length c] 25 (0, 0))) := ⟨blk_below F170.out hb⟩; clear F170; have F188 : Aside0 (w20.heap[gt]? = some (.cells #[.bool b, .slice A1 ls.length c1, .slice A2 lb.length c2] 77 (0, 0))) := ⟨blk_below F171.out hb⟩; clear F171; have F189 : Aside0 (w20.heap[ge]? = some (.cells #[.int .i64 op, .int .i64 of, .int .i64 dir] 54 (0, 0))) := ⟨blk_below F172.out hb⟩; clear F172; have F190 : Aside0 (Kd.R k50 50 w20 w.heap.size (fun k => q8.heap.size ≤ k ∧ k < w7.heap.size) (.slice Bq8 ds.length eq8) ds) := ⟨Kd.R_below F173.out hb⟩; clear F173; have F191 : Aside0 (Kd.R Kd.bool 4 w20 w.heap.size (fun k => q8.heap.size ≤ k ∧ k < w7.heap.size) (.slice Dq8 dd.length fq8) dd) := ⟨Kd.R_below F174.out hb⟩; clear F174; have F192 : Aside0 (w20.heap[g8]? = some (.cells #[.int .i64 d0, .bool d1, .slice Bq8 ds.length eq8, .slice Dq8 dd.length fq8] 48 (0, 0))) := ⟨blk_below F175.out hb⟩; clear F175; have F193 : Aside0 (Kd.R k88 88 w20 w.heap.size (fun k => w7.heap.size ≤ k ∧ k < w8.heap.size) (.slice A8 lc.length c8) lc) := ⟨Kd.R_below F176.out hb⟩; clear F176; have F194 : Aside0 (w20.heap[gx]? = some (.cells #[.int .i64 n, .slice A8 lc.length c8] 30 (0, 0))) := ⟨blk_below F177.out hb⟩; clear F177; have F195 : Aside0 (Kd.R k50 50 w20 w.heap.size (fun k => w10.heap.size ≤ k ∧ k < w11.heap.size) (.slice A11 sc.length c11) sc) := ⟨Kd.R_below F178.out hb⟩; clear F178; have F196 : Aside0 (Kd.R Kd.bool 4 w20 w.heap.size (fun k => w10.heap.size ≤ k ∧ k < w11.heap.size) (.slice D11 lb.length f11) lb) := ⟨Kd.R_below F179.out hb⟩; clear F179; have F197 : Aside0 (w20.heap[gy]? = some (.cells #[.bool b, .slice A11 sc.length c11, .slice D11 lb.length f11] 46 (0, 0))) := ⟨blk_below F180.out hb⟩; clear F180; have F198 : Aside0 (Kd.R k50 50 w20 w.heap.size (fun k => q11.heap.size ≤ k ∧ k < w15.heap.size) (.slice Bq11 ds.length eq11) ds) := ⟨Kd.R_below F181.out hb⟩; clear F181; have F199 : Aside0 (Kd.R Kd.bool 4 w20 w.heap.size (fun k => q11.heap.size ≤ k ∧ k < w15.heap.size) (.slice Dq11 dd.length fq11) dd) := ⟨Kd.R_below F182.out hb⟩; clear F182; have F200 : Aside0 (w20.heap[g11]? = some (.cells #[.int .i64 d0, .bool d1, .slice Bq11 ds.length eq11, .slice Dq11 dd.length fq11] 48 (0, 0))) := ⟨blk_below F183.out hb⟩; clear F183; have F201 : Aside0 (Kd.R k50 50 w20 w.heap.size (fun k => w18.drew.heap.size ≤ k ∧ k < w19.heap.size) (.slice A19 sc.length c19) sc) := ⟨Kd.R_below F184.out hb⟩; clear F184; have F202 : Aside0 (Kd.R Kd.bool 4 w20 w.heap.size (fun k => w18.drew.heap.size ≤ k ∧ k < w19.heap.size) (.slice D19 lb.length f19) lb) := ⟨Kd.R_below F185.out hb⟩; clear F185; have hbk := Aside0.mk hb; clear hb))
  clear ky0 ky1 ky2 kt0 kt1 kt2
  clear F201
  clear F202
  go_upto_region 18 with fail
  have kx0 : w20.cell? ⟨gx, 0, none⟩ = some (.int .i64 n) := (blk_cell F194.out 0).trans rfl
  have kx1 : w20.cell? ⟨gx, 1, none⟩ = some (.slice A8 lc.length c8) := (blk_cell F194.out 1).trans rfl
  go_upto_region 20 with (go_at_call 40; refine (laws_markLayout.calls kML n (fun k => w7.heap.size ≤ k ∧ k < w8.heap.size) _ lc 1 k1 _ w _ F186.out F193.out EML.out).mono ?_; rintro e w21 ⟨rfl, hm, hB, hk⟩; have hBB := hB; have Z20 : Aside0 (w20.heap.size ≤ w21.heap.size) := ⟨hk.1⟩; have F203 : Aside0 (Below w.heap.size w w21) := ⟨hB⟩; clear F186; have F204 : Aside0 (w21.heap[gl]? = some (.cells #[.int .i64 n, .slice A l.length c] 25 (0, 0))) := ⟨blk_kept F187.out hk (fun hq => by obtain ⟨hq1, hq2⟩ := hq; have := EGL.out; have := EHL.out; have := Z1.out; have := Z2.out; have := Z3.out; have := Z4.out; have := Z5.out; have := Z6.out; omega)⟩; clear F187; have F205 : Aside0 (w21.heap[gt]? = some (.cells #[.bool b, .slice A1 ls.length c1, .slice A2 lb.length c2] 77 (0, 0))) := ⟨blk_kept F188.out hk (fun hq => by obtain ⟨hq1, hq2⟩ := hq; have := EGT.out; have := EHT.out; have := Z2.out; have := Z3.out; have := Z4.out; have := Z5.out; have := Z6.out; omega)⟩; clear F188; have F206 : Aside0 (w21.heap[ge]? = some (.cells #[.int .i64 op, .int .i64 of, .int .i64 dir] 54 (0, 0))) := ⟨blk_kept F189.out hk (fun hq => by obtain ⟨hq1, hq2⟩ := hq; have := EGE.out; have := EHE.out; have := Z3.out; have := Z4.out; have := Z5.out; have := Z6.out; omega)⟩; clear F189; have F207 : Aside0 (Kd.R k50 50 w21 w.heap.size (fun k => q8.heap.size ≤ k ∧ k < w7.heap.size) (.slice Bq8 ds.length eq8) ds) := ⟨Kd.R_kept F190.out hk (fun k hq hr => by obtain ⟨hq1, hq2⟩ := hq; obtain ⟨hr1, hr2⟩ := hr; omega)⟩; clear F190; have F208 : Aside0 (Kd.R Kd.bool 4 w21 w.heap.size (fun k => q8.heap.size ≤ k ∧ k < w7.heap.size) (.slice Dq8 dd.length fq8) dd) := ⟨Kd.R_kept F191.out hk (fun k hq hr => by obtain ⟨hq1, hq2⟩ := hq; obtain ⟨hr1, hr2⟩ := hr; omega)⟩; clear F191; have F209 : Aside0 (w21.heap[g8]? = some (.cells #[.int .i64 d0, .bool d1, .slice Bq8 ds.length eq8, .slice Dq8 dd.length fq8] 48 (0, 0))) := ⟨blk_kept F192.out hk (fun hq => by obtain ⟨hq1, hq2⟩ := hq; have := W0G.out; have := W0H.out; omega)⟩; clear F192; have F210 : Aside0 (w21.heap[gx]? = some (.cells #[.int .i64 n, .slice A8 lc.length c8] 30 (0, 0))) := ⟨blk_kept F194.out hk (fun hq => by obtain ⟨hq1, hq2⟩ := hq; have := EXXB.out; have := EYXB.out; omega)⟩; clear F194; have F211 : Aside0 (Kd.R k50 50 w21 w.heap.size (fun k => w10.heap.size ≤ k ∧ k < w11.heap.size) (.slice A11 sc.length c11) sc) := ⟨Kd.R_kept F195.out hk (fun k hq hr => by obtain ⟨hq1, hq2⟩ := hq; obtain ⟨hr1, hr2⟩ := hr; have := Z8.out; omega)⟩; clear F195; have F212 : Aside0 (Kd.R Kd.bool 4 w21 w.heap.size (fun k => w10.heap.size ≤ k ∧ k < w11.heap.size) (.slice D11 lb.length f11) lb) := ⟨Kd.R_kept F196.out hk (fun k hq hr => by obtain ⟨hq1, hq2⟩ := hq; obtain ⟨hr1, hr2⟩ := hr; have := Z8.out; omega)⟩; clear F196; have F213 : Aside0 (w21.heap[gy]? = some (.cells #[.bool b, .slice A11 sc.length c11, .slice D11 lb.length f11] 46 (0, 0))) := ⟨blk_kept F197.out hk (fun hq => by obtain ⟨hq1, hq2⟩ := hq; have := EXYB.out; have := EYYB.out; have := Z8.out; have := Z9.out; omega)⟩; clear F197; have F214 : Aside0 (Kd.R k50 50 w21 w.heap.size (fun k => q11.heap.size ≤ k ∧ k < w15.heap.size) (.slice Bq11 ds.length eq11) ds) := ⟨Kd.R_kept F198.out hk (fun k hq hr => by obtain ⟨hq1, hq2⟩ := hq; obtain ⟨hr1, hr2⟩ := hr; have := Z8.out; have := Z9.out; have := Z10.out; have := Z11.out; omega)⟩; clear F198; have F215 : Aside0 (Kd.R Kd.bool 4 w21 w.heap.size (fun k => q11.heap.size ≤ k ∧ k < w15.heap.size) (.slice Dq11 dd.length fq11) dd) := ⟨Kd.R_kept F199.out hk (fun k hq hr => by obtain ⟨hq1, hq2⟩ := hq; obtain ⟨hr1, hr2⟩ := hr; have := Z8.out; have := Z9.out; have := Z10.out; have := Z11.out; omega)⟩; clear F199; have F216 : Aside0 (w21.heap[g11]? = some (.cells #[.int .i64 d0, .bool d1, .slice Bq11 ds.length eq11, .slice Dq11 dd.length fq11] 48 (0, 0))) := ⟨blk_kept F200.out hk (fun hq => by obtain ⟨hq1, hq2⟩ := hq; have := G0G.out; have := G0H.out; have := Z8.out; have := Z9.out; have := Z10.out; have := Z11.out; omega)⟩; clear F200; clear hk hB hBB; clear hm)
  clear kx0 kx1
  clear F193
  clear F210
  have ky0 : w21.cell? ⟨gy, 0, none⟩ = some (.bool b) := (blk_cell F213.out 0).trans rfl
  have ky1 : w21.cell? ⟨gy, 1, none⟩ = some (.slice A11 sc.length c11) := (blk_cell F213.out 1).trans rfl
  have ky2 : w21.cell? ⟨gy, 2, none⟩ = some (.slice D11 lb.length f11) := (blk_cell F213.out 2).trans rfl
  go_upto_region 21 with (go_at_call 46; refine (laws_markState.calls kMS b (fun k => w10.heap.size ≤ k ∧ k < w11.heap.size) _ sc (fun k => w10.heap.size ≤ k ∧ k < w11.heap.size) _ lb k1 k2 _ _ w _ F203.out F211.out F212.out EMS.out).mono ?_; rintro e w22 ⟨rfl, hm, hm2, hB, hk0⟩; have hBB := hB; have hk := kept_mono hk0 (fun _ h => h.elim id id); have Z21 : Aside0 (w21.heap.size ≤ w22.heap.size) := ⟨hk.1⟩; have F217 : Aside0 (Below w.heap.size w w22) := ⟨hB⟩; clear F203; have F218 : Aside0 (w22.heap[gl]? = some (.cells #[.int .i64 n, .slice A l.length c] 25 (0, 0))) := ⟨blk_kept F204.out hk (fun hq => by obtain ⟨hq1, hq2⟩ := hq; have := EGL.out; have := EHL.out; have := Z1.out; have := Z2.out; have := Z3.out; have := Z4.out; have := Z5.out; have := Z6.out; have := Z7.out; have := Z8.out; omega)⟩; clear F204; have F219 : Aside0 (w22.heap[gt]? = some (.cells #[.bool b, .slice A1 ls.length c1, .slice A2 lb.length c2] 77 (0, 0))) := ⟨blk_kept F205.out hk (fun hq => by obtain ⟨hq1, hq2⟩ := hq; have := EGT.out; have := EHT.out; have := Z2.out; have := Z3.out; have := Z4.out; have := Z5.out; have := Z6.out; have := Z7.out; have := Z8.out; omega)⟩; clear F205; have F220 : Aside0 (w22.heap[ge]? = some (.cells #[.int .i64 op, .int .i64 of, .int .i64 dir] 54 (0, 0))) := ⟨blk_kept F206.out hk (fun hq => by obtain ⟨hq1, hq2⟩ := hq; have := EGE.out; have := EHE.out; have := Z3.out; have := Z4.out; have := Z5.out; have := Z6.out; have := Z7.out; have := Z8.out; omega)⟩; clear F206; have F221 : Aside0 (Kd.R k50 50 w22 w.heap.size (fun k => q8.heap.size ≤ k ∧ k < w7.heap.size) (.slice Bq8 ds.length eq8) ds) := ⟨Kd.R_kept F207.out hk (fun k hq hr => by obtain ⟨hq1, hq2⟩ := hq; obtain ⟨hr1, hr2⟩ := hr; have := Z7.out; have := Z8.out; omega)⟩; clear F207; have F222 : Aside0 (Kd.R Kd.bool 4 w22 w.heap.size (fun k => q8.heap.size ≤ k ∧ k < w7.heap.size) (.slice Dq8 dd.length fq8) dd) := ⟨Kd.R_kept F208.out hk (fun k hq hr => by obtain ⟨hq1, hq2⟩ := hq; obtain ⟨hr1, hr2⟩ := hr; have := Z7.out; have := Z8.out; omega)⟩; clear F208; have F223 : Aside0 (w22.heap[g8]? = some (.cells #[.int .i64 d0, .bool d1, .slice Bq8 ds.length eq8, .slice Dq8 dd.length fq8] 48 (0, 0))) := ⟨blk_kept F209.out hk (fun hq => by obtain ⟨hq1, hq2⟩ := hq; have := W0G.out; have := W0H.out; have := Z7.out; have := Z8.out; omega)⟩; clear F209; have F224 : Aside0 (w22.heap[gy]? = some (.cells #[.bool b, .slice A11 sc.length c11, .slice D11 lb.length f11] 46 (0, 0))) := ⟨blk_kept F213.out hk (fun hq => by obtain ⟨hq1, hq2⟩ := hq; have := EXYB.out; have := EYYB.out; omega)⟩; clear F213; have F225 : Aside0 (Kd.R k50 50 w22 w.heap.size (fun k => q11.heap.size ≤ k ∧ k < w15.heap.size) (.slice Bq11 ds.length eq11) ds) := ⟨Kd.R_kept F214.out hk (fun k hq hr => by obtain ⟨hq1, hq2⟩ := hq; obtain ⟨hr1, hr2⟩ := hr; have := Z10.out; have := Z11.out; omega)⟩; clear F214; have F226 : Aside0 (Kd.R Kd.bool 4 w22 w.heap.size (fun k => q11.heap.size ≤ k ∧ k < w15.heap.size) (.slice Dq11 dd.length fq11) dd) := ⟨Kd.R_kept F215.out hk (fun k hq hr => by obtain ⟨hq1, hq2⟩ := hq; obtain ⟨hr1, hr2⟩ := hr; have := Z10.out; have := Z11.out; omega)⟩; clear F215; have F227 : Aside0 (w22.heap[g11]? = some (.cells #[.int .i64 d0, .bool d1, .slice Bq11 ds.length eq11, .slice Dq11 dd.length fq11] 48 (0, 0))) := ⟨blk_kept F216.out hk (fun hq => by obtain ⟨hq1, hq2⟩ := hq; have := G0G.out; have := G0H.out; have := Z10.out; have := Z11.out; omega)⟩; clear F216; clear hk hk0 hB hBB hm hm2)
  clear ky0 ky1 ky2
  clear F212
  clear F211
  clear F224
  have kg0 : w22.cell? ⟨g11, 0, none⟩ = some (.int .i64 d0) := (blk_cell F227.out 0).trans rfl
  have kg1 : w22.cell? ⟨g11, 1, none⟩ = some (.bool d1) := (blk_cell F227.out 1).trans rfl
  have kg2 : w22.cell? ⟨g11, 2, none⟩ = some (.slice Bq11 ds.length eq11) := (blk_cell F227.out 2).trans rfl
  have kg3 : w22.cell? ⟨g11, 3, none⟩ = some (.slice Dq11 dd.length fq11) := (blk_cell F227.out 3).trans rfl
  have kw0 : w22.cell? ⟨g8, 0, none⟩ = some (.int .i64 d0) := (blk_cell F223.out 0).trans rfl
  have kw1 : w22.cell? ⟨g8, 1, none⟩ = some (.bool d1) := (blk_cell F223.out 1).trans rfl
  have kw2 : w22.cell? ⟨g8, 2, none⟩ = some (.slice Bq8 ds.length eq8) := (blk_cell F223.out 2).trans rfl
  have kw3 : w22.cell? ⟨g8, 3, none⟩ = some (.slice Dq8 dd.length fq8) := (blk_cell F223.out 3).trans rfl
  go_upto_region 23 with (go_at_call 71; refine (eqD_at HDS.out HDD.out (Kd.R_reads' F225.out).2.2 (Kd.R_reads' F225.out).2.1 (Kd.R_reads' F226.out).2.2 (Kd.R_reads' F226.out).2.1 (Kd.R_reads' F221.out).2.2 (Kd.R_reads' F221.out).2.1 (Kd.R_reads' F222.out).2.2 (Kd.R_reads' F222.out).2.1).mono ?_; rintro e w23 ⟨rfl, hb⟩; have Z22 : Aside0 (w22.heap.size ≤ w23.heap.size) := ⟨hb.size⟩; have F228 : Aside0 (Below w.heap.size w w23) := ⟨below_step F217.out hb⟩; clear F217; have F229 : Aside0 (w23.heap[gl]? = some (.cells #[.int .i64 n, .slice A l.length c] 25 (0, 0))) := ⟨blk_below F218.out hb⟩; clear F218; have F230 : Aside0 (w23.heap[gt]? = some (.cells #[.bool b, .slice A1 ls.length c1, .slice A2 lb.length c2] 77 (0, 0))) := ⟨blk_below F219.out hb⟩; clear F219; have F231 : Aside0 (w23.heap[ge]? = some (.cells #[.int .i64 op, .int .i64 of, .int .i64 dir] 54 (0, 0))) := ⟨blk_below F220.out hb⟩; clear F220; have F232 : Aside0 (Kd.R k50 50 w23 w.heap.size (fun k => q8.heap.size ≤ k ∧ k < w7.heap.size) (.slice Bq8 ds.length eq8) ds) := ⟨Kd.R_below F221.out hb⟩; clear F221; have F233 : Aside0 (Kd.R Kd.bool 4 w23 w.heap.size (fun k => q8.heap.size ≤ k ∧ k < w7.heap.size) (.slice Dq8 dd.length fq8) dd) := ⟨Kd.R_below F222.out hb⟩; clear F222; have F234 : Aside0 (w23.heap[g8]? = some (.cells #[.int .i64 d0, .bool d1, .slice Bq8 ds.length eq8, .slice Dq8 dd.length fq8] 48 (0, 0))) := ⟨blk_below F223.out hb⟩; clear F223; have F235 : Aside0 (Kd.R k50 50 w23 w.heap.size (fun k => q11.heap.size ≤ k ∧ k < w15.heap.size) (.slice Bq11 ds.length eq11) ds) := ⟨Kd.R_below F225.out hb⟩; clear F225; have F236 : Aside0 (Kd.R Kd.bool 4 w23 w.heap.size (fun k => q11.heap.size ≤ k ∧ k < w15.heap.size) (.slice Dq11 dd.length fq11) dd) := ⟨Kd.R_below F226.out hb⟩; clear F226; have F237 : Aside0 (w23.heap[g11]? = some (.cells #[.int .i64 d0, .bool d1, .slice Bq11 ds.length eq11, .slice Dq11 dd.length fq11] 48 (0, 0))) := ⟨blk_below F227.out hb⟩; clear F227; clear hb)
  clear kg0 kg1 kg2 kg3 kw0 kw1 kw2 kw3
  have kg0 : w23.cell? ⟨g11, 0, none⟩ = some (.int .i64 d0) := (blk_cell F237.out 0).trans rfl
  have kg1 : w23.cell? ⟨g11, 1, none⟩ = some (.bool d1) := (blk_cell F237.out 1).trans rfl
  have kg2 : w23.cell? ⟨g11, 2, none⟩ = some (.slice Bq11 ds.length eq11) := (blk_cell F237.out 2).trans rfl
  have kg3 : w23.cell? ⟨g11, 3, none⟩ = some (.slice Dq11 dd.length fq11) := (blk_cell F237.out 3).trans rfl
  go_upto_region 25 with (go_at_call 72; refine (markDn_at (P := fun k => (q11.heap.size ≤ k ∧ k < w15.heap.size) ∧ k ≠ g11) HMM.out HDS.out HDD.out F228.out (Kd.R_types F235.out F237.out (by decide)) (Kd.R_types F236.out F237.out (by decide))).mono ?_; rintro e w24 ⟨rfl, hm, hm2, hB, hk0⟩; have hk := kept_mono hk0 (fun _ h => h.1); have Z23 : Aside0 (w23.heap.size ≤ w24.heap.size) := ⟨hk.1⟩; have F238 : Aside0 (Below w.heap.size w w24) := ⟨hB⟩; clear F228; have F239 : Aside0 (w24.heap[gl]? = some (.cells #[.int .i64 n, .slice A l.length c] 25 (0, 0))) := ⟨blk_kept F229.out hk (fun hq => by obtain ⟨hq1, hq2⟩ := hq; have := EGL.out; have := EHL.out; have := Z1.out; have := Z2.out; have := Z3.out; have := Z4.out; have := Z5.out; have := Z6.out; have := Z7.out; have := Z8.out; have := Z9.out; have := Z10.out; have := Z11.out; omega)⟩; clear F229; have F240 : Aside0 (w24.heap[gt]? = some (.cells #[.bool b, .slice A1 ls.length c1, .slice A2 lb.length c2] 77 (0, 0))) := ⟨blk_kept F230.out hk (fun hq => by obtain ⟨hq1, hq2⟩ := hq; have := EGT.out; have := EHT.out; have := Z2.out; have := Z3.out; have := Z4.out; have := Z5.out; have := Z6.out; have := Z7.out; have := Z8.out; have := Z9.out; have := Z10.out; have := Z11.out; omega)⟩; clear F230; have F241 : Aside0 (w24.heap[ge]? = some (.cells #[.int .i64 op, .int .i64 of, .int .i64 dir] 54 (0, 0))) := ⟨blk_kept F231.out hk (fun hq => by obtain ⟨hq1, hq2⟩ := hq; have := EGE.out; have := EHE.out; have := Z3.out; have := Z4.out; have := Z5.out; have := Z6.out; have := Z7.out; have := Z8.out; have := Z9.out; have := Z10.out; have := Z11.out; omega)⟩; clear F231; have F242 : Aside0 (Kd.R k50 50 w24 w.heap.size (fun k => q8.heap.size ≤ k ∧ k < w7.heap.size) (.slice Bq8 ds.length eq8) ds) := ⟨Kd.R_kept F232.out hk (fun k hq hr => by obtain ⟨hq1, hq2⟩ := hq; obtain ⟨hr1, hr2⟩ := hr; have := Z7.out; have := Z8.out; have := Z9.out; have := Z10.out; have := Z11.out; omega)⟩; clear F232; have F243 : Aside0 (Kd.R Kd.bool 4 w24 w.heap.size (fun k => q8.heap.size ≤ k ∧ k < w7.heap.size) (.slice Dq8 dd.length fq8) dd) := ⟨Kd.R_kept F233.out hk (fun k hq hr => by obtain ⟨hq1, hq2⟩ := hq; obtain ⟨hr1, hr2⟩ := hr; have := Z7.out; have := Z8.out; have := Z9.out; have := Z10.out; have := Z11.out; omega)⟩; clear F233; have F244 : Aside0 (w24.heap[g8]? = some (.cells #[.int .i64 d0, .bool d1, .slice Bq8 ds.length eq8, .slice Dq8 dd.length fq8] 48 (0, 0))) := ⟨blk_kept F234.out hk (fun hq => by obtain ⟨hq1, hq2⟩ := hq; have := W0G.out; have := W0H.out; have := Z7.out; have := Z8.out; have := Z9.out; have := Z10.out; have := Z11.out; omega)⟩; clear F234; have F245 : Aside0 (w24.heap[g11]? = some (.cells #[.int .i64 d0, .bool d1, .slice Bq11 ds.length eq11, .slice Dq11 dd.length fq11] 48 (0, 0))) := ⟨blk_kept F237.out hk0 (fun hq => hq.2 rfl)⟩; have G1M := Aside0.mk hm; have G2M := Aside0.mk hm2; clear hk hk0 hB hm hm2)
  clear kg0 kg1 kg2 kg3
  clear F235 F236 F237
  have kg0 : w24.cell? ⟨g11, 0, none⟩ = some (.int .i64 d0) := (blk_cell F245.out 0).trans rfl
  have kg1 : w24.cell? ⟨g11, 1, none⟩ = some (.bool d1) := (blk_cell F245.out 1).trans rfl
  have kg2 : w24.cell? ⟨g11, 2, none⟩ = some (.slice Bq11 ds.length eq11) := (blk_cell F245.out 2).trans rfl
  have kg3 : w24.cell? ⟨g11, 3, none⟩ = some (.slice Dq11 dd.length fq11) := (blk_cell F245.out 3).trans rfl
  go_upto_region 31 with (go_at_call 73; refine (heldD_at HMM.out HDS.out HDD.out G1M.out G2M.out).mono ?_; rintro e w25 ⟨rfl, hb⟩; have Z24 : Aside0 (w24.heap.size ≤ w25.heap.size) := ⟨hb.size⟩; have F246 : Aside0 (Below w.heap.size w w25) := ⟨below_step F238.out hb⟩; clear F238; have F247 : Aside0 (w25.heap[gl]? = some (.cells #[.int .i64 n, .slice A l.length c] 25 (0, 0))) := ⟨blk_below F239.out hb⟩; clear F239; have F248 : Aside0 (w25.heap[gt]? = some (.cells #[.bool b, .slice A1 ls.length c1, .slice A2 lb.length c2] 77 (0, 0))) := ⟨blk_below F240.out hb⟩; clear F240; have F249 : Aside0 (w25.heap[ge]? = some (.cells #[.int .i64 op, .int .i64 of, .int .i64 dir] 54 (0, 0))) := ⟨blk_below F241.out hb⟩; clear F241; have F250 : Aside0 (Kd.R k50 50 w25 w.heap.size (fun k => q8.heap.size ≤ k ∧ k < w7.heap.size) (.slice Bq8 ds.length eq8) ds) := ⟨Kd.R_below F242.out hb⟩; clear F242; have F251 : Aside0 (Kd.R Kd.bool 4 w25 w.heap.size (fun k => q8.heap.size ≤ k ∧ k < w7.heap.size) (.slice Dq8 dd.length fq8) dd) := ⟨Kd.R_below F243.out hb⟩; clear F243; have F252 : Aside0 (w25.heap[g8]? = some (.cells #[.int .i64 d0, .bool d1, .slice Bq8 ds.length eq8, .slice Dq8 dd.length fq8] 48 (0, 0))) := ⟨blk_below F244.out hb⟩; clear F244; have F253 : Aside0 (Kd.R k50 50 w25 w.heap.size (fun _ => True) (.slice Bq11 ds.length eq11) (marks mkS 5 1 ds.length)) := ⟨Kd.R_below G1M.out hb⟩; clear G1M; have F254 : Aside0 (w25.heap[g11]? = some (.cells #[.int .i64 d0, .bool d1, .slice Bq11 ds.length eq11, .slice Dq11 dd.length fq11] 48 (0, 0))) := ⟨blk_below F245.out hb⟩; clear F245; have F255 : Aside0 (Kd.R Kd.bool 4 w25 w.heap.size (fun _ => True) (.slice Dq11 dd.length fq11) (marks mkB 1 (1 + 5 * (ds.length : Int)) dd.length)) := ⟨Kd.R_below G2M.out hb⟩; clear G2M; clear hb)
  clear kg0 kg1 kg2 kg3
  have Z25 : Aside0 (w25.heap.size ≤ w25.drew.heap.size) := ⟨(below_drew1 (Below.refl w25.heap.size w25)).size⟩
  have F256 : Aside0 (Below w.heap.size w w25.drew) := ⟨below_step F246.out (below_drew1 (Below.refl w25.heap.size w25))⟩
  clear F246
  have F257 : Aside0 (w25.drew.heap[gl]? = some (.cells #[.int .i64 n, .slice A l.length c] 25 (0, 0))) := ⟨blk_below F247.out (below_drew1 (Below.refl w25.heap.size w25))⟩
  clear F247
  have F258 : Aside0 (w25.drew.heap[gt]? = some (.cells #[.bool b, .slice A1 ls.length c1, .slice A2 lb.length c2] 77 (0, 0))) := ⟨blk_below F248.out (below_drew1 (Below.refl w25.heap.size w25))⟩
  clear F248
  have F259 : Aside0 (w25.drew.heap[ge]? = some (.cells #[.int .i64 op, .int .i64 of, .int .i64 dir] 54 (0, 0))) := ⟨blk_below F249.out (below_drew1 (Below.refl w25.heap.size w25))⟩
  clear F249
  have F260 : Aside0 (Kd.R k50 50 w25.drew w.heap.size (fun k => q8.heap.size ≤ k ∧ k < w7.heap.size) (.slice Bq8 ds.length eq8) ds) := ⟨Kd.R_below F250.out (below_drew1 (Below.refl w25.heap.size w25))⟩
  clear F250
  have F261 : Aside0 (Kd.R Kd.bool 4 w25.drew w.heap.size (fun k => q8.heap.size ≤ k ∧ k < w7.heap.size) (.slice Dq8 dd.length fq8) dd) := ⟨Kd.R_below F251.out (below_drew1 (Below.refl w25.heap.size w25))⟩
  clear F251
  have F262 : Aside0 (w25.drew.heap[g8]? = some (.cells #[.int .i64 d0, .bool d1, .slice Bq8 ds.length eq8, .slice Dq8 dd.length fq8] 48 (0, 0))) := ⟨blk_below F252.out (below_drew1 (Below.refl w25.heap.size w25))⟩
  clear F252
  have F263 : Aside0 (Kd.R k50 50 w25.drew w.heap.size (fun _ => True) (.slice Bq11 ds.length eq11) (marks mkS 5 1 ds.length)) := ⟨Kd.R_below F253.out (below_drew1 (Below.refl w25.heap.size w25))⟩
  clear F253
  have F264 : Aside0 (w25.drew.heap[g11]? = some (.cells #[.int .i64 d0, .bool d1, .slice Bq11 ds.length eq11, .slice Dq11 dd.length fq11] 48 (0, 0))) := ⟨blk_below F254.out (below_drew1 (Below.refl w25.heap.size w25))⟩
  clear F254
  have F265 : Aside0 (Kd.R Kd.bool 4 w25.drew w.heap.size (fun _ => True) (.slice Dq11 dd.length fq11) (marks mkB 1 (1 + 5 * (ds.length : Int)) dd.length)) := ⟨Kd.R_below F255.out (below_drew1 (Below.refl w25.heap.size w25))⟩
  clear F255
  refine start_ (n := 9) (S := fun w' => w'.cell? ⟨gl, 0, none⟩ = some (.int .i64 n) ∧ w'.cell? ⟨gl, 1, none⟩ = some (.slice A l.length c) ∧ w'.cell? ⟨gt, 0, none⟩ = some (.bool b) ∧ w'.cell? ⟨gt, 1, none⟩ = some (.slice A1 ls.length c1) ∧ w'.cell? ⟨gt, 2, none⟩ = some (.slice A2 lb.length c2) ∧ w'.cell? ⟨ge, 0, none⟩ = some (.int .i64 op) ∧ w'.cell? ⟨ge, 1, none⟩ = some (.int .i64 of) ∧ w'.cell? ⟨ge, 2, none⟩ = some (.int .i64 dir)) (ds := [8]) #[false, false, false, false, false, false, false, false, false] (by kernel_rfl) rfl rfl ⟨(blk_cell F257.out 0).trans rfl, (blk_cell F257.out 1).trans rfl, (blk_cell F258.out 0).trans rfl, (blk_cell F258.out 1).trans rfl, (blk_cell F258.out 2).trans rfl, (blk_cell F259.out 0).trans rfl, (blk_cell F259.out 1).trans rfl, (blk_cell F259.out 2).trans rfl⟩ (fun hHeld => ?_)
  refine with_tabW dw_tab31 dw_bits31 (fun HT_ HW_ => ?_)
  generalize w25.drew = q31 at F256 F257 F258 F259 F260 F261 F262 F263 F264 F265 Z25 hHeld ⊢
  have BW := Aside0.mk (Below.refl q31.heap.size q31)
  refine take_ (i := 0) (N := some 81) (v := ?_) (a' := ?_) #[true, false, false, false, false, false, false, false, false] rfl rfl (take_ofW HT_.out HW_.out (by kernel_rfl)) (fun _ _ _ h => h) (Or.inl ⟨by rfl, ?_⟩) hHeld ?_ ?_
  rotate_left
  · rintro w' ⟨s0, s1, s2, s3, s4, s5, s6, s7⟩
    go_simp
    with_reducible rfl
  rotate_left
  · simp only [Act.put, List.setIfInBounds_toArray, List.set_cons_zero, List.set_cons_succ, i64_w, i32_w]
    rfl
  refine take_ (i := 2) (N := some 83) (v := ?_) (a' := ?_) #[true, false, true, false, false, false, false, false, false] rfl rfl (take_ofW HT_.out HW_.out (by kernel_rfl)) (fun _ _ _ h => h) (Or.inl ⟨by rfl, ?_⟩) hHeld ?_ ?_
  rotate_left
  · rintro w' ⟨s0, s1, s2, s3, s4, s5, s6, s7⟩
    go_simp
    with_reducible rfl
  rotate_left
  · simp only [Act.put, List.setIfInBounds_toArray, List.set_cons_zero, List.set_cons_succ, i64_w, i32_w]
    rfl
  refine take_ (i := 4) (N := some 85) (v := ?_) (a' := ?_) #[true, false, true, false, true, false, false, false, false] rfl rfl (take_ofW HT_.out HW_.out (by kernel_rfl)) (fun _ _ _ h => h) (Or.inl ⟨by rfl, ?_⟩) hHeld ?_ ?_
  rotate_left
  · rintro w' ⟨s0, s1, s2, s3, s4, s5, s6, s7⟩
    go_simp
    with_reducible rfl
  rotate_left
  · simp only [Act.put, List.setIfInBounds_toArray, List.set_cons_zero, List.set_cons_succ, i64_w, i32_w]
    rfl
  refine join_ (σ := Nat × Value × Value × Value × Value × Value) 1 #[true, true, true, true, true, true, true, true, false] (fun s_ => [(82, .agg #[.int .i64 n, s_.2.2.2.1]), (84, .agg #[.bool b, s_.2.2.2.2.1, s_.2.2.2.2.2]), (86, .agg #[.int .i64 op, .int .i64 of, .int .i64 dir]), (87, .agg #[.int .i64 d0, .bool d1, s_.2.1, s_.2.2.1]), (15, .pointer (some ⟨s_.1, 0, none⟩))]) (fun s_ w' => (w'.cell? ⟨gl, 0, none⟩ = some (.int .i64 n) ∧ w'.cell? ⟨gl, 1, none⟩ = some (.slice A l.length c) ∧ w'.cell? ⟨gt, 0, none⟩ = some (.bool b) ∧ w'.cell? ⟨gt, 1, none⟩ = some (.slice A1 ls.length c1) ∧ w'.cell? ⟨gt, 2, none⟩ = some (.slice A2 lb.length c2) ∧ w'.cell? ⟨ge, 0, none⟩ = some (.int .i64 op) ∧ w'.cell? ⟨ge, 1, none⟩ = some (.int .i64 of) ∧ w'.cell? ⟨ge, 2, none⟩ = some (.int .i64 dir)) ∧ w'.heap[s_.1]? = some (.cells #[.int .i64 0, .bool false, .slice none 0 0, .slice none 0 0] 48 (0, 0)) ∧ q31.heap.size ≤ s_.1 ∧ Kd.R k50 50 w' q31.heap.size (fun _ => True) s_.2.1 ds ∧ Kd.R Kd.bool 4 w' q31.heap.size (fun _ => True) s_.2.2.1 dd ∧ Below q31.heap.size q31 w') ?_ ?_
  rotate_left
  · intro hCont
    refine two_ (i := 1) (j := 7) (Ni := some 82) (Nj := some 15) #[true, true, true, false, true, false, false, false, false] #[true, false, true, false, true, false, false, true, false] rfl rfl rfl rfl (two_of HT_.out (by kernel_rfl)) (by decide) (by decide) (fun K hK => ?_) (fun K hK => ?_)
    · skip
      refine goes_ Try.func24 (by kernel_rfl) rfl #[.agg #[.int .i64 n, .slice A l.length c]] (by rfl) rfl rfl (by (try simp only [List.map_toArray, List.map_cons, List.map_nil]); first | done | rfl) ?_
      with_reducible refine (laws_toLayout.calls kTL n A c l n lc _ (Kd.C_below HR.out (below_step F256.out BW.out)) HC.out ETL.out).mono ?_
      rintro e wx ⟨v, rfl, ho, hb⟩
      obtain ⟨At, ct, rfl⟩ := Kd.R_slice ho
      refine ⟨_, rfl, ?_⟩
      have RT := Aside0.mk ho
      have BW := Aside0.mk (below_step BW.out hb)
      refine hK.out _ _ ⟨pw_cell_below hb hHeld.1, pw_cell_below hb hHeld.2.1, pw_cell_below hb hHeld.2.2.1, pw_cell_below hb hHeld.2.2.2.1, pw_cell_below hb hHeld.2.2.2.2.1, pw_cell_below hb hHeld.2.2.2.2.2.1, pw_cell_below hb hHeld.2.2.2.2.2.2.1, pw_cell_below hb hHeld.2.2.2.2.2.2.2⟩ (fun hHeld => ?_)
      clear hb ho
      clear hK K
      refine norm_ (a' := ?_) ?_ ?_
      rotate_left
      · show Act.put _ (some 82) _ = _
        simp only [Act.put, List.setIfInBounds_toArray, List.set_cons_zero, List.set_cons_succ, i64_w, i32_w]
        rfl
      refine two_ (i := 3) (j := 7) (Ni := some 84) (Nj := some 15) #[true, true, true, true, true, false, false, false, false] #[true, true, true, false, true, false, false, true, false] rfl rfl rfl rfl (two_of HT_.out (by kernel_rfl)) (by decide) (by decide) (fun K hK => ?_) (fun K hK => ?_)
      · skip
        refine goes_ Try.func57 (by kernel_rfl) rfl #[.agg #[.bool b, .slice A1 ls.length c1, .slice A2 lb.length c2]] (by rfl) rfl rfl (by (try simp only [List.map_toArray, List.map_cons, List.map_nil]); first | done | rfl) ?_
        with_reducible refine (laws_toState.calls kTS b A1 c1 ls A2 c2 lb b sc lb _ (Kd.C_below HE.out (below_step F256.out BW.out)) HEC.out (Kd.C_below HI.out (below_step F256.out BW.out)) HIC.out ETS.out).mono ?_
        rintro e wx ⟨v, v', rfl, ho, ho', hb⟩
        obtain ⟨As, cs, rfl⟩ := Kd.R_slice ho
        obtain ⟨Ad, cd, rfl⟩ := Kd.R_slice ho'
        refine ⟨_, rfl, ?_⟩
        have RT := Aside0.mk (Kd.R_below RT.out hb)
        have RS := Aside0.mk ho
        have RD := Aside0.mk ho'
        have BW := Aside0.mk (below_step BW.out hb)
        refine hK.out _ _ ⟨pw_cell_below hb hHeld.1, pw_cell_below hb hHeld.2.1, pw_cell_below hb hHeld.2.2.1, pw_cell_below hb hHeld.2.2.2.1, pw_cell_below hb hHeld.2.2.2.2.1, pw_cell_below hb hHeld.2.2.2.2.2.1, pw_cell_below hb hHeld.2.2.2.2.2.2.1, pw_cell_below hb hHeld.2.2.2.2.2.2.2⟩ (fun hHeld => ?_)
        clear hb ho ho'
        clear hK K
        refine norm_ (a' := ?_) ?_ ?_
        rotate_left
        · show Act.put _ (some 84) _ = _
          simp only [Act.put, List.setIfInBounds_toArray, List.set_cons_zero, List.set_cons_succ, i64_w, i32_w]
          rfl
        refine two_ (i := 5) (j := 7) (Ni := some 86) (Nj := some 15) #[true, true, true, true, true, true, false, false, false] #[true, true, true, true, true, false, false, true, false] rfl rfl rfl rfl (two_of HT_.out (by kernel_rfl)) (by decide) (by decide) (fun K hK => ?_) (fun K hK => ?_)
        · skip
          refine goes_ Try.func35 (by kernel_rfl) rfl #[.agg #[.int .i64 op, .int .i64 of, .int .i64 dir]] (by rfl) rfl rfl (by (try simp only [List.map_toArray, List.map_cons, List.map_nil]); first | done | rfl) ?_
          with_reducible refine (laws_toEvent.calls op of dir op of dir _ ETE.out).mono ?_
          rintro e wx ⟨rfl, hb⟩
          refine ⟨_, rfl, ?_⟩
          have RT := Aside0.mk (Kd.R_below RT.out hb)
          have RS := Aside0.mk (Kd.R_below RS.out hb)
          have RD := Aside0.mk (Kd.R_below RD.out hb)
          have BW := Aside0.mk (below_step BW.out hb)
          refine hK.out _ _ ⟨pw_cell_below hb hHeld.1, pw_cell_below hb hHeld.2.1, pw_cell_below hb hHeld.2.2.1, pw_cell_below hb hHeld.2.2.2.1, pw_cell_below hb hHeld.2.2.2.2.1, pw_cell_below hb hHeld.2.2.2.2.2.1, pw_cell_below hb hHeld.2.2.2.2.2.2.1, pw_cell_below hb hHeld.2.2.2.2.2.2.2⟩ (fun hHeld => ?_)
          clear hb
          clear hK K
          refine norm_ (a' := ?_) ?_ ?_
          rotate_left
          · show Act.put _ (some 86) _ = _
            simp only [Act.put, List.setIfInBounds_toArray, List.set_cons_zero, List.set_cons_succ, i64_w, i32_w]
            rfl
          refine two_ (i := 6) (j := 7) (Ni := some 87) (Nj := some 15) #[true, true, true, true, true, true, true, false, false] #[true, true, true, true, true, true, false, true, false] rfl rfl rfl rfl (two_of HT_.out (by kernel_rfl)) (by decide) (by decide) (fun K hK => ?_) (fun K hK => ?_)
          · skip
            refine goes_ Try.func70 (by kernel_rfl) rfl #[.agg #[.int .i64 n, .slice At lc.length ct], .agg #[.bool b, .slice As sc.length cs, .slice Ad lb.length cd], .agg #[.int .i64 op, .int .i64 of, .int .i64 dir]] (by rfl) rfl rfl (by (try simp only [List.map_toArray, List.map_cons, List.map_nil]); first | done | rfl) ?_
            with_reducible refine (ido_at HD.out (Kd.R_reads' RT.out).2.2 (Kd.R_reads' RT.out).2.1 (Kd.R_reads' RS.out).2.2 (Kd.R_reads' RS.out).2.1 (Kd.R_reads' RD.out).2.2 (Kd.R_reads' RD.out).2.1).mono ?_
            rintro e wx ⟨v, v', rfl, ho, ho', hb⟩
            refine ⟨_, rfl, ?_⟩
            have RT := Aside0.mk (Kd.R_below RT.out hb)
            have RS := Aside0.mk (Kd.R_below RS.out hb)
            have RD := Aside0.mk (Kd.R_below RD.out hb)
            have R8 := Aside0.mk (Kd.R_lower ho BW.out.size)
            have R9 := Aside0.mk (Kd.R_lower ho' BW.out.size)
            have BW := Aside0.mk (below_step BW.out hb)
            refine hK.out _ _ ⟨pw_cell_below hb hHeld.1, pw_cell_below hb hHeld.2.1, pw_cell_below hb hHeld.2.2.1, pw_cell_below hb hHeld.2.2.2.1, pw_cell_below hb hHeld.2.2.2.2.1, pw_cell_below hb hHeld.2.2.2.2.2.1, pw_cell_below hb hHeld.2.2.2.2.2.2.1, pw_cell_below hb hHeld.2.2.2.2.2.2.2⟩ (fun hHeld => ?_)
            clear hb ho ho'
            clear hK K
            refine norm_ (a' := ?_) ?_ ?_
            rotate_left
            · show Act.put _ (some 87) _ = _
              simp only [Act.put, List.setIfInBounds_toArray, List.set_cons_zero, List.set_cons_succ, i64_w, i32_w]
              rfl
            refine one_ (i := 7) (N := some 15) #[true, true, true, true, true, true, true, true, false] rfl rfl (one_of HT_.out (by kernel_rfl)) (by decide) (fun K hK => ?_)
            refine box_step (N := 15) ?hg ?hd (cs := #[.int .i64 0, .bool false, .slice none 0 0, .slice none 0 0]) (t := 48) ?hr ?_; (case hd => rfl); (case hg => rfl); (case hr => first | (go_simp; done) | (go_simp; rfl))
            intro gb eb wx kb hb
            have RT := Aside0.mk (Kd.R_below RT.out hb)
            have RS := Aside0.mk (Kd.R_below RS.out hb)
            have RD := Aside0.mk (Kd.R_below RD.out hb)
            have R8 := Aside0.mk (Kd.R_below R8.out hb)
            have R9 := Aside0.mk (Kd.R_below R9.out hb)
            have KB := Aside0.mk kb
            have GB := Aside0.mk (show q31.heap.size ≤ gb by rw [eb]; exact BW.out.size)
            have BW := Aside0.mk (below_step BW.out hb)
            refine hK.out _ _ ⟨pw_cell_below hb hHeld.1, pw_cell_below hb hHeld.2.1, pw_cell_below hb hHeld.2.2.1, pw_cell_below hb hHeld.2.2.2.1, pw_cell_below hb hHeld.2.2.2.2.1, pw_cell_below hb hHeld.2.2.2.2.2.1, pw_cell_below hb hHeld.2.2.2.2.2.2.1, pw_cell_below hb hHeld.2.2.2.2.2.2.2⟩ (fun hHeld => ?_)
            clear eb kb hb
            clear hK K
            refine norm_ (a' := ?_) ?_ ?_
            rotate_left
            · show Act.put _ (some 15) _ = _
              simp only [Act.put, List.setIfInBounds_toArray, List.set_cons_zero, List.set_cons_succ, i64_w, i32_w]
              rfl
            exact norm_ (by simp only [putAll, Act.put, List.setIfInBounds_toArray, List.set_cons_zero, List.set_cons_succ] <;> rfl) (hCont (gb, _, _, _, _, _) _ ⟨hHeld, KB.out, GB.out, R8.out, R9.out, BW.out⟩)
          · skip
            refine box_step (N := 15) ?hg ?hd (cs := #[.int .i64 0, .bool false, .slice none 0 0, .slice none 0 0]) (t := 48) ?hr ?_; (case hd => rfl); (case hg => rfl); (case hr => first | (go_simp; done) | (go_simp; rfl))
            intro gb eb wx kb hb
            have RT := Aside0.mk (Kd.R_below RT.out hb)
            have RS := Aside0.mk (Kd.R_below RS.out hb)
            have RD := Aside0.mk (Kd.R_below RD.out hb)
            have KB := Aside0.mk kb
            have GB := Aside0.mk (show q31.heap.size ≤ gb by rw [eb]; exact BW.out.size)
            have BW := Aside0.mk (below_step BW.out hb)
            refine hK.out _ _ ⟨pw_cell_below hb hHeld.1, pw_cell_below hb hHeld.2.1, pw_cell_below hb hHeld.2.2.1, pw_cell_below hb hHeld.2.2.2.1, pw_cell_below hb hHeld.2.2.2.2.1, pw_cell_below hb hHeld.2.2.2.2.2.1, pw_cell_below hb hHeld.2.2.2.2.2.2.1, pw_cell_below hb hHeld.2.2.2.2.2.2.2⟩ (fun hHeld => ?_)
            clear eb kb hb
            clear hK K
            refine norm_ (a' := ?_) ?_ ?_
            rotate_left
            · show Act.put _ (some 15) _ = _
              simp only [Act.put, List.setIfInBounds_toArray, List.set_cons_zero, List.set_cons_succ, i64_w, i32_w]
              rfl
            refine one_ (i := 6) (N := some 87) #[true, true, true, true, true, true, true, true, false] rfl rfl (one_of HT_.out (by kernel_rfl)) (by decide) (fun K hK => ?_)
            refine goes_ Try.func70 (by kernel_rfl) rfl #[.agg #[.int .i64 n, .slice At lc.length ct], .agg #[.bool b, .slice As sc.length cs, .slice Ad lb.length cd], .agg #[.int .i64 op, .int .i64 of, .int .i64 dir]] (by rfl) rfl rfl (by (try simp only [List.map_toArray, List.map_cons, List.map_nil]); first | done | rfl) ?_
            with_reducible refine (ido_at HD.out (Kd.R_reads' RT.out).2.2 (Kd.R_reads' RT.out).2.1 (Kd.R_reads' RS.out).2.2 (Kd.R_reads' RS.out).2.1 (Kd.R_reads' RD.out).2.2 (Kd.R_reads' RD.out).2.1).mono ?_
            rintro e wx ⟨v, v', rfl, ho, ho', hb⟩
            refine ⟨_, rfl, ?_⟩
            have RT := Aside0.mk (Kd.R_below RT.out hb)
            have RS := Aside0.mk (Kd.R_below RS.out hb)
            have RD := Aside0.mk (Kd.R_below RD.out hb)
            have KB := Aside0.mk (blk_below KB.out hb)
            have R8 := Aside0.mk (Kd.R_lower ho BW.out.size)
            have R9 := Aside0.mk (Kd.R_lower ho' BW.out.size)
            have BW := Aside0.mk (below_step BW.out hb)
            refine hK.out _ _ ⟨pw_cell_below hb hHeld.1, pw_cell_below hb hHeld.2.1, pw_cell_below hb hHeld.2.2.1, pw_cell_below hb hHeld.2.2.2.1, pw_cell_below hb hHeld.2.2.2.2.1, pw_cell_below hb hHeld.2.2.2.2.2.1, pw_cell_below hb hHeld.2.2.2.2.2.2.1, pw_cell_below hb hHeld.2.2.2.2.2.2.2⟩ (fun hHeld => ?_)
            clear hb ho ho'
            clear hK K
            refine norm_ (a' := ?_) ?_ ?_
            rotate_left
            · show Act.put _ (some 87) _ = _
              simp only [Act.put, List.setIfInBounds_toArray, List.set_cons_zero, List.set_cons_succ, i64_w, i32_w]
              rfl
            exact norm_ (by simp only [putAll, Act.put, List.setIfInBounds_toArray, List.set_cons_zero, List.set_cons_succ] <;> rfl) (hCont (gb, _, _, _, _, _) _ ⟨hHeld, KB.out, GB.out, R8.out, R9.out, BW.out⟩)
        · skip
          refine box_step (N := 15) ?hg ?hd (cs := #[.int .i64 0, .bool false, .slice none 0 0, .slice none 0 0]) (t := 48) ?hr ?_; (case hd => rfl); (case hg => rfl); (case hr => first | (go_simp; done) | (go_simp; rfl))
          intro gb eb wx kb hb
          have RT := Aside0.mk (Kd.R_below RT.out hb)
          have RS := Aside0.mk (Kd.R_below RS.out hb)
          have RD := Aside0.mk (Kd.R_below RD.out hb)
          have KB := Aside0.mk kb
          have GB := Aside0.mk (show q31.heap.size ≤ gb by rw [eb]; exact BW.out.size)
          have BW := Aside0.mk (below_step BW.out hb)
          refine hK.out _ _ ⟨pw_cell_below hb hHeld.1, pw_cell_below hb hHeld.2.1, pw_cell_below hb hHeld.2.2.1, pw_cell_below hb hHeld.2.2.2.1, pw_cell_below hb hHeld.2.2.2.2.1, pw_cell_below hb hHeld.2.2.2.2.2.1, pw_cell_below hb hHeld.2.2.2.2.2.2.1, pw_cell_below hb hHeld.2.2.2.2.2.2.2⟩ (fun hHeld => ?_)
          clear eb kb hb
          clear hK K
          refine norm_ (a' := ?_) ?_ ?_
          rotate_left
          · show Act.put _ (some 15) _ = _
            simp only [Act.put, List.setIfInBounds_toArray, List.set_cons_zero, List.set_cons_succ, i64_w, i32_w]
            rfl
          refine one_ (i := 5) (N := some 86) #[true, true, true, true, true, true, false, true, false] rfl rfl (one_of HT_.out (by kernel_rfl)) (by decide) (fun K hK => ?_)
          refine goes_ Try.func35 (by kernel_rfl) rfl #[.agg #[.int .i64 op, .int .i64 of, .int .i64 dir]] (by rfl) rfl rfl (by (try simp only [List.map_toArray, List.map_cons, List.map_nil]); first | done | rfl) ?_
          with_reducible refine (laws_toEvent.calls op of dir op of dir _ ETE.out).mono ?_
          rintro e wx ⟨rfl, hb⟩
          refine ⟨_, rfl, ?_⟩
          have RT := Aside0.mk (Kd.R_below RT.out hb)
          have RS := Aside0.mk (Kd.R_below RS.out hb)
          have RD := Aside0.mk (Kd.R_below RD.out hb)
          have KB := Aside0.mk (blk_below KB.out hb)
          have BW := Aside0.mk (below_step BW.out hb)
          refine hK.out _ _ ⟨pw_cell_below hb hHeld.1, pw_cell_below hb hHeld.2.1, pw_cell_below hb hHeld.2.2.1, pw_cell_below hb hHeld.2.2.2.1, pw_cell_below hb hHeld.2.2.2.2.1, pw_cell_below hb hHeld.2.2.2.2.2.1, pw_cell_below hb hHeld.2.2.2.2.2.2.1, pw_cell_below hb hHeld.2.2.2.2.2.2.2⟩ (fun hHeld => ?_)
          clear hb
          clear hK K
          refine norm_ (a' := ?_) ?_ ?_
          rotate_left
          · show Act.put _ (some 86) _ = _
            simp only [Act.put, List.setIfInBounds_toArray, List.set_cons_zero, List.set_cons_succ, i64_w, i32_w]
            rfl
          refine one_ (i := 6) (N := some 87) #[true, true, true, true, true, true, true, true, false] rfl rfl (one_of HT_.out (by kernel_rfl)) (by decide) (fun K hK => ?_)
          refine goes_ Try.func70 (by kernel_rfl) rfl #[.agg #[.int .i64 n, .slice At lc.length ct], .agg #[.bool b, .slice As sc.length cs, .slice Ad lb.length cd], .agg #[.int .i64 op, .int .i64 of, .int .i64 dir]] (by rfl) rfl rfl (by (try simp only [List.map_toArray, List.map_cons, List.map_nil]); first | done | rfl) ?_
          with_reducible refine (ido_at HD.out (Kd.R_reads' RT.out).2.2 (Kd.R_reads' RT.out).2.1 (Kd.R_reads' RS.out).2.2 (Kd.R_reads' RS.out).2.1 (Kd.R_reads' RD.out).2.2 (Kd.R_reads' RD.out).2.1).mono ?_
          rintro e wx ⟨v, v', rfl, ho, ho', hb⟩
          refine ⟨_, rfl, ?_⟩
          have RT := Aside0.mk (Kd.R_below RT.out hb)
          have RS := Aside0.mk (Kd.R_below RS.out hb)
          have RD := Aside0.mk (Kd.R_below RD.out hb)
          have KB := Aside0.mk (blk_below KB.out hb)
          have R8 := Aside0.mk (Kd.R_lower ho BW.out.size)
          have R9 := Aside0.mk (Kd.R_lower ho' BW.out.size)
          have BW := Aside0.mk (below_step BW.out hb)
          refine hK.out _ _ ⟨pw_cell_below hb hHeld.1, pw_cell_below hb hHeld.2.1, pw_cell_below hb hHeld.2.2.1, pw_cell_below hb hHeld.2.2.2.1, pw_cell_below hb hHeld.2.2.2.2.1, pw_cell_below hb hHeld.2.2.2.2.2.1, pw_cell_below hb hHeld.2.2.2.2.2.2.1, pw_cell_below hb hHeld.2.2.2.2.2.2.2⟩ (fun hHeld => ?_)
          clear hb ho ho'
          clear hK K
          refine norm_ (a' := ?_) ?_ ?_
          rotate_left
          · show Act.put _ (some 87) _ = _
            simp only [Act.put, List.setIfInBounds_toArray, List.set_cons_zero, List.set_cons_succ, i64_w, i32_w]
            rfl
          exact norm_ (by simp only [putAll, Act.put, List.setIfInBounds_toArray, List.set_cons_zero, List.set_cons_succ] <;> rfl) (hCont (gb, _, _, _, _, _) _ ⟨hHeld, KB.out, GB.out, R8.out, R9.out, BW.out⟩)
      · skip
        refine box_step (N := 15) ?hg ?hd (cs := #[.int .i64 0, .bool false, .slice none 0 0, .slice none 0 0]) (t := 48) ?hr ?_; (case hd => rfl); (case hg => rfl); (case hr => first | (go_simp; done) | (go_simp; rfl))
        intro gb eb wx kb hb
        have RT := Aside0.mk (Kd.R_below RT.out hb)
        have KB := Aside0.mk kb
        have GB := Aside0.mk (show q31.heap.size ≤ gb by rw [eb]; exact BW.out.size)
        have BW := Aside0.mk (below_step BW.out hb)
        refine hK.out _ _ ⟨pw_cell_below hb hHeld.1, pw_cell_below hb hHeld.2.1, pw_cell_below hb hHeld.2.2.1, pw_cell_below hb hHeld.2.2.2.1, pw_cell_below hb hHeld.2.2.2.2.1, pw_cell_below hb hHeld.2.2.2.2.2.1, pw_cell_below hb hHeld.2.2.2.2.2.2.1, pw_cell_below hb hHeld.2.2.2.2.2.2.2⟩ (fun hHeld => ?_)
        clear eb kb hb
        clear hK K
        refine norm_ (a' := ?_) ?_ ?_
        rotate_left
        · show Act.put _ (some 15) _ = _
          simp only [Act.put, List.setIfInBounds_toArray, List.set_cons_zero, List.set_cons_succ, i64_w, i32_w]
          rfl
        refine one_ (i := 3) (N := some 84) #[true, true, true, true, true, false, false, true, false] rfl rfl (one_of HT_.out (by kernel_rfl)) (by decide) (fun K hK => ?_)
        refine goes_ Try.func57 (by kernel_rfl) rfl #[.agg #[.bool b, .slice A1 ls.length c1, .slice A2 lb.length c2]] (by rfl) rfl rfl (by (try simp only [List.map_toArray, List.map_cons, List.map_nil]); first | done | rfl) ?_
        with_reducible refine (laws_toState.calls kTS b A1 c1 ls A2 c2 lb b sc lb _ (Kd.C_below HE.out (below_step F256.out BW.out)) HEC.out (Kd.C_below HI.out (below_step F256.out BW.out)) HIC.out ETS.out).mono ?_
        rintro e wx ⟨v, v', rfl, ho, ho', hb⟩
        obtain ⟨As, cs, rfl⟩ := Kd.R_slice ho
        obtain ⟨Ad, cd, rfl⟩ := Kd.R_slice ho'
        refine ⟨_, rfl, ?_⟩
        have RT := Aside0.mk (Kd.R_below RT.out hb)
        have KB := Aside0.mk (blk_below KB.out hb)
        have RS := Aside0.mk ho
        have RD := Aside0.mk ho'
        have BW := Aside0.mk (below_step BW.out hb)
        refine hK.out _ _ ⟨pw_cell_below hb hHeld.1, pw_cell_below hb hHeld.2.1, pw_cell_below hb hHeld.2.2.1, pw_cell_below hb hHeld.2.2.2.1, pw_cell_below hb hHeld.2.2.2.2.1, pw_cell_below hb hHeld.2.2.2.2.2.1, pw_cell_below hb hHeld.2.2.2.2.2.2.1, pw_cell_below hb hHeld.2.2.2.2.2.2.2⟩ (fun hHeld => ?_)
        clear hb ho ho'
        clear hK K
        refine norm_ (a' := ?_) ?_ ?_
        rotate_left
        · show Act.put _ (some 84) _ = _
          simp only [Act.put, List.setIfInBounds_toArray, List.set_cons_zero, List.set_cons_succ, i64_w, i32_w]
          rfl
        refine one_ (i := 5) (N := some 86) #[true, true, true, true, true, true, false, true, false] rfl rfl (one_of HT_.out (by kernel_rfl)) (by decide) (fun K hK => ?_)
        refine goes_ Try.func35 (by kernel_rfl) rfl #[.agg #[.int .i64 op, .int .i64 of, .int .i64 dir]] (by rfl) rfl rfl (by (try simp only [List.map_toArray, List.map_cons, List.map_nil]); first | done | rfl) ?_
        with_reducible refine (laws_toEvent.calls op of dir op of dir _ ETE.out).mono ?_
        rintro e wx ⟨rfl, hb⟩
        refine ⟨_, rfl, ?_⟩
        have RT := Aside0.mk (Kd.R_below RT.out hb)
        have KB := Aside0.mk (blk_below KB.out hb)
        have RS := Aside0.mk (Kd.R_below RS.out hb)
        have RD := Aside0.mk (Kd.R_below RD.out hb)
        have BW := Aside0.mk (below_step BW.out hb)
        refine hK.out _ _ ⟨pw_cell_below hb hHeld.1, pw_cell_below hb hHeld.2.1, pw_cell_below hb hHeld.2.2.1, pw_cell_below hb hHeld.2.2.2.1, pw_cell_below hb hHeld.2.2.2.2.1, pw_cell_below hb hHeld.2.2.2.2.2.1, pw_cell_below hb hHeld.2.2.2.2.2.2.1, pw_cell_below hb hHeld.2.2.2.2.2.2.2⟩ (fun hHeld => ?_)
        clear hb
        clear hK K
        refine norm_ (a' := ?_) ?_ ?_
        rotate_left
        · show Act.put _ (some 86) _ = _
          simp only [Act.put, List.setIfInBounds_toArray, List.set_cons_zero, List.set_cons_succ, i64_w, i32_w]
          rfl
        refine one_ (i := 6) (N := some 87) #[true, true, true, true, true, true, true, true, false] rfl rfl (one_of HT_.out (by kernel_rfl)) (by decide) (fun K hK => ?_)
        refine goes_ Try.func70 (by kernel_rfl) rfl #[.agg #[.int .i64 n, .slice At lc.length ct], .agg #[.bool b, .slice As sc.length cs, .slice Ad lb.length cd], .agg #[.int .i64 op, .int .i64 of, .int .i64 dir]] (by rfl) rfl rfl (by (try simp only [List.map_toArray, List.map_cons, List.map_nil]); first | done | rfl) ?_
        with_reducible refine (ido_at HD.out (Kd.R_reads' RT.out).2.2 (Kd.R_reads' RT.out).2.1 (Kd.R_reads' RS.out).2.2 (Kd.R_reads' RS.out).2.1 (Kd.R_reads' RD.out).2.2 (Kd.R_reads' RD.out).2.1).mono ?_
        rintro e wx ⟨v, v', rfl, ho, ho', hb⟩
        refine ⟨_, rfl, ?_⟩
        have RT := Aside0.mk (Kd.R_below RT.out hb)
        have KB := Aside0.mk (blk_below KB.out hb)
        have RS := Aside0.mk (Kd.R_below RS.out hb)
        have RD := Aside0.mk (Kd.R_below RD.out hb)
        have R8 := Aside0.mk (Kd.R_lower ho BW.out.size)
        have R9 := Aside0.mk (Kd.R_lower ho' BW.out.size)
        have BW := Aside0.mk (below_step BW.out hb)
        refine hK.out _ _ ⟨pw_cell_below hb hHeld.1, pw_cell_below hb hHeld.2.1, pw_cell_below hb hHeld.2.2.1, pw_cell_below hb hHeld.2.2.2.1, pw_cell_below hb hHeld.2.2.2.2.1, pw_cell_below hb hHeld.2.2.2.2.2.1, pw_cell_below hb hHeld.2.2.2.2.2.2.1, pw_cell_below hb hHeld.2.2.2.2.2.2.2⟩ (fun hHeld => ?_)
        clear hb ho ho'
        clear hK K
        refine norm_ (a' := ?_) ?_ ?_
        rotate_left
        · show Act.put _ (some 87) _ = _
          simp only [Act.put, List.setIfInBounds_toArray, List.set_cons_zero, List.set_cons_succ, i64_w, i32_w]
          rfl
        exact norm_ (by simp only [putAll, Act.put, List.setIfInBounds_toArray, List.set_cons_zero, List.set_cons_succ] <;> rfl) (hCont (gb, _, _, _, _, _) _ ⟨hHeld, KB.out, GB.out, R8.out, R9.out, BW.out⟩)
    · skip
      refine box_step (N := 15) ?hg ?hd (cs := #[.int .i64 0, .bool false, .slice none 0 0, .slice none 0 0]) (t := 48) ?hr ?_; (case hd => rfl); (case hg => rfl); (case hr => first | (go_simp; done) | (go_simp; rfl))
      intro gb eb wx kb hb
      have KB := Aside0.mk kb
      have GB := Aside0.mk (show q31.heap.size ≤ gb by rw [eb]; exact BW.out.size)
      have BW := Aside0.mk (below_step BW.out hb)
      refine hK.out _ _ ⟨pw_cell_below hb hHeld.1, pw_cell_below hb hHeld.2.1, pw_cell_below hb hHeld.2.2.1, pw_cell_below hb hHeld.2.2.2.1, pw_cell_below hb hHeld.2.2.2.2.1, pw_cell_below hb hHeld.2.2.2.2.2.1, pw_cell_below hb hHeld.2.2.2.2.2.2.1, pw_cell_below hb hHeld.2.2.2.2.2.2.2⟩ (fun hHeld => ?_)
      clear eb kb hb
      clear hK K
      refine norm_ (a' := ?_) ?_ ?_
      rotate_left
      · show Act.put _ (some 15) _ = _
        simp only [Act.put, List.setIfInBounds_toArray, List.set_cons_zero, List.set_cons_succ, i64_w, i32_w]
        rfl
      refine one_ (i := 1) (N := some 82) #[true, true, true, false, true, false, false, true, false] rfl rfl (one_of HT_.out (by kernel_rfl)) (by decide) (fun K hK => ?_)
      refine goes_ Try.func24 (by kernel_rfl) rfl #[.agg #[.int .i64 n, .slice A l.length c]] (by rfl) rfl rfl (by (try simp only [List.map_toArray, List.map_cons, List.map_nil]); first | done | rfl) ?_
      with_reducible refine (laws_toLayout.calls kTL n A c l n lc _ (Kd.C_below HR.out (below_step F256.out BW.out)) HC.out ETL.out).mono ?_
      rintro e wx ⟨v, rfl, ho, hb⟩
      obtain ⟨At, ct, rfl⟩ := Kd.R_slice ho
      refine ⟨_, rfl, ?_⟩
      have KB := Aside0.mk (blk_below KB.out hb)
      have RT := Aside0.mk ho
      have BW := Aside0.mk (below_step BW.out hb)
      refine hK.out _ _ ⟨pw_cell_below hb hHeld.1, pw_cell_below hb hHeld.2.1, pw_cell_below hb hHeld.2.2.1, pw_cell_below hb hHeld.2.2.2.1, pw_cell_below hb hHeld.2.2.2.2.1, pw_cell_below hb hHeld.2.2.2.2.2.1, pw_cell_below hb hHeld.2.2.2.2.2.2.1, pw_cell_below hb hHeld.2.2.2.2.2.2.2⟩ (fun hHeld => ?_)
      clear hb ho
      clear hK K
      refine norm_ (a' := ?_) ?_ ?_
      rotate_left
      · show Act.put _ (some 82) _ = _
        simp only [Act.put, List.setIfInBounds_toArray, List.set_cons_zero, List.set_cons_succ, i64_w, i32_w]
        rfl
      refine one_ (i := 3) (N := some 84) #[true, true, true, true, true, false, false, true, false] rfl rfl (one_of HT_.out (by kernel_rfl)) (by decide) (fun K hK => ?_)
      refine goes_ Try.func57 (by kernel_rfl) rfl #[.agg #[.bool b, .slice A1 ls.length c1, .slice A2 lb.length c2]] (by rfl) rfl rfl (by (try simp only [List.map_toArray, List.map_cons, List.map_nil]); first | done | rfl) ?_
      with_reducible refine (laws_toState.calls kTS b A1 c1 ls A2 c2 lb b sc lb _ (Kd.C_below HE.out (below_step F256.out BW.out)) HEC.out (Kd.C_below HI.out (below_step F256.out BW.out)) HIC.out ETS.out).mono ?_
      rintro e wx ⟨v, v', rfl, ho, ho', hb⟩
      obtain ⟨As, cs, rfl⟩ := Kd.R_slice ho
      obtain ⟨Ad, cd, rfl⟩ := Kd.R_slice ho'
      refine ⟨_, rfl, ?_⟩
      have KB := Aside0.mk (blk_below KB.out hb)
      have RT := Aside0.mk (Kd.R_below RT.out hb)
      have RS := Aside0.mk ho
      have RD := Aside0.mk ho'
      have BW := Aside0.mk (below_step BW.out hb)
      refine hK.out _ _ ⟨pw_cell_below hb hHeld.1, pw_cell_below hb hHeld.2.1, pw_cell_below hb hHeld.2.2.1, pw_cell_below hb hHeld.2.2.2.1, pw_cell_below hb hHeld.2.2.2.2.1, pw_cell_below hb hHeld.2.2.2.2.2.1, pw_cell_below hb hHeld.2.2.2.2.2.2.1, pw_cell_below hb hHeld.2.2.2.2.2.2.2⟩ (fun hHeld => ?_)
      clear hb ho ho'
      clear hK K
      refine norm_ (a' := ?_) ?_ ?_
      rotate_left
      · show Act.put _ (some 84) _ = _
        simp only [Act.put, List.setIfInBounds_toArray, List.set_cons_zero, List.set_cons_succ, i64_w, i32_w]
        rfl
      refine one_ (i := 5) (N := some 86) #[true, true, true, true, true, true, false, true, false] rfl rfl (one_of HT_.out (by kernel_rfl)) (by decide) (fun K hK => ?_)
      refine goes_ Try.func35 (by kernel_rfl) rfl #[.agg #[.int .i64 op, .int .i64 of, .int .i64 dir]] (by rfl) rfl rfl (by (try simp only [List.map_toArray, List.map_cons, List.map_nil]); first | done | rfl) ?_
      with_reducible refine (laws_toEvent.calls op of dir op of dir _ ETE.out).mono ?_
      rintro e wx ⟨rfl, hb⟩
      refine ⟨_, rfl, ?_⟩
      have KB := Aside0.mk (blk_below KB.out hb)
      have RT := Aside0.mk (Kd.R_below RT.out hb)
      have RS := Aside0.mk (Kd.R_below RS.out hb)
      have RD := Aside0.mk (Kd.R_below RD.out hb)
      have BW := Aside0.mk (below_step BW.out hb)
      refine hK.out _ _ ⟨pw_cell_below hb hHeld.1, pw_cell_below hb hHeld.2.1, pw_cell_below hb hHeld.2.2.1, pw_cell_below hb hHeld.2.2.2.1, pw_cell_below hb hHeld.2.2.2.2.1, pw_cell_below hb hHeld.2.2.2.2.2.1, pw_cell_below hb hHeld.2.2.2.2.2.2.1, pw_cell_below hb hHeld.2.2.2.2.2.2.2⟩ (fun hHeld => ?_)
      clear hb
      clear hK K
      refine norm_ (a' := ?_) ?_ ?_
      rotate_left
      · show Act.put _ (some 86) _ = _
        simp only [Act.put, List.setIfInBounds_toArray, List.set_cons_zero, List.set_cons_succ, i64_w, i32_w]
        rfl
      refine one_ (i := 6) (N := some 87) #[true, true, true, true, true, true, true, true, false] rfl rfl (one_of HT_.out (by kernel_rfl)) (by decide) (fun K hK => ?_)
      refine goes_ Try.func70 (by kernel_rfl) rfl #[.agg #[.int .i64 n, .slice At lc.length ct], .agg #[.bool b, .slice As sc.length cs, .slice Ad lb.length cd], .agg #[.int .i64 op, .int .i64 of, .int .i64 dir]] (by rfl) rfl rfl (by (try simp only [List.map_toArray, List.map_cons, List.map_nil]); first | done | rfl) ?_
      with_reducible refine (ido_at HD.out (Kd.R_reads' RT.out).2.2 (Kd.R_reads' RT.out).2.1 (Kd.R_reads' RS.out).2.2 (Kd.R_reads' RS.out).2.1 (Kd.R_reads' RD.out).2.2 (Kd.R_reads' RD.out).2.1).mono ?_
      rintro e wx ⟨v, v', rfl, ho, ho', hb⟩
      refine ⟨_, rfl, ?_⟩
      have KB := Aside0.mk (blk_below KB.out hb)
      have RT := Aside0.mk (Kd.R_below RT.out hb)
      have RS := Aside0.mk (Kd.R_below RS.out hb)
      have RD := Aside0.mk (Kd.R_below RD.out hb)
      have R8 := Aside0.mk (Kd.R_lower ho BW.out.size)
      have R9 := Aside0.mk (Kd.R_lower ho' BW.out.size)
      have BW := Aside0.mk (below_step BW.out hb)
      refine hK.out _ _ ⟨pw_cell_below hb hHeld.1, pw_cell_below hb hHeld.2.1, pw_cell_below hb hHeld.2.2.1, pw_cell_below hb hHeld.2.2.2.1, pw_cell_below hb hHeld.2.2.2.2.1, pw_cell_below hb hHeld.2.2.2.2.2.1, pw_cell_below hb hHeld.2.2.2.2.2.2.1, pw_cell_below hb hHeld.2.2.2.2.2.2.2⟩ (fun hHeld => ?_)
      clear hb ho ho'
      clear hK K
      refine norm_ (a' := ?_) ?_ ?_
      rotate_left
      · show Act.put _ (some 87) _ = _
        simp only [Act.put, List.setIfInBounds_toArray, List.set_cons_zero, List.set_cons_succ, i64_w, i32_w]
        rfl
      exact norm_ (by simp only [putAll, Act.put, List.setIfInBounds_toArray, List.set_cons_zero, List.set_cons_succ] <;> rfl) (hCont (gb, _, _, _, _, _) _ ⟨hHeld, KB.out, GB.out, R8.out, R9.out, BW.out⟩)
  rintro ⟨g15, v8, v9, vL, vS, vD⟩ w26 ⟨hS, kb, gb, h8, h9, hbw⟩
  dsimp only at hS kb gb h8 h9 hbw
  obtain ⟨Bq15, eq15, rfl⟩ := Kd.R_slice h8
  obtain ⟨Dq15, fq15, rfl⟩ := Kd.R_slice h9
  have kb0 : w26.cell? ⟨g15, 0, none⟩ = some (Value.int .i64 0) := (blk_cell kb 0).trans rfl
  have zb0 := blk_frozen kb 0
  have kb1 : w26.cell? ⟨g15, 1, none⟩ = some (Value.bool false) := (blk_cell kb 1).trans rfl
  have zb1 := blk_frozen kb 1
  have kb2 : w26.cell? ⟨g15, 2, none⟩ = some (Value.slice none 0 0) := (blk_cell kb 2).trans rfl
  have zb2 := blk_frozen kb 2
  have kb3 : w26.cell? ⟨g15, 3, none⟩ = some (Value.slice none 0 0) := (blk_cell kb 3).trans rfl
  have zb3 := blk_frozen kb 3
  have KB := Aside0.mk kb
  have GB := Aside0.mk gb
  have R8 := Aside0.mk h8
  have R9 := Aside0.mk h9
  have BW := Aside0.mk hbw
  clear kb gb h8 h9 hbw hHeld
  refine norm_ (a' := ?_) ?_ ?_
  rotate_left
  · simp only [putAll, Act.put, List.setIfInBounds_toArray, List.set_cons_zero, List.set_cons_succ]
    rfl
  refine last_ (i := 8) (N := none) #[true, true, true, true, true, true, true, true, true] rfl rfl (one_of HT_.out (by kernel_rfl)) (by decide) (fun K hK => ?_)
  refine skip_ (w1 := ?_) (by rfl) rfl ?_ ?_
  rotate_left
  · go_simp
    rfl
  refine hK.out _ _ ?_
  clear hK K
  refine done_ (done_of HT_.out (by kernel_rfl)) ?_
  clear HT_ HW_ hS kb0 kb1 kb2 kb3 zb0 zb1 zb2 zb3
  have KY := Aside0.mk (blk_put (blk_put (blk_put (blk_put (KB.out) 0 (.int .i64 d0) rfl) 1 (.bool d1) rfl) 2 (.slice Bq15 ds.length eq15) rfl) 3 (.slice Dq15 dd.length fq15) rfl)
  have Q8 := Aside0.mk (Kd.R_set (Kd.R_set (Kd.R_set (Kd.R_set (R8.out) (KB.out) (by decide) 0 (.int .i64 d0)) (blk_put (KB.out) 0 (.int .i64 d0) rfl) (by decide) 1 (.bool d1)) (blk_put (blk_put (KB.out) 0 (.int .i64 d0) rfl) 1 (.bool d1) rfl) (by decide) 2 (.slice Bq15 ds.length eq15)) (blk_put (blk_put (blk_put (KB.out) 0 (.int .i64 d0) rfl) 1 (.bool d1) rfl) 2 (.slice Bq15 ds.length eq15) rfl) (by decide) 3 (.slice Dq15 dd.length fq15))
  have Q9 := Aside0.mk (Kd.R_set (Kd.R_set (Kd.R_set (Kd.R_set (R9.out) (KB.out) (by decide) 0 (.int .i64 d0)) (blk_put (KB.out) 0 (.int .i64 d0) rfl) (by decide) 1 (.bool d1)) (blk_put (blk_put (KB.out) 0 (.int .i64 d0) rfl) 1 (.bool d1) rfl) (by decide) 2 (.slice Bq15 ds.length eq15)) (blk_put (blk_put (blk_put (KB.out) 0 (.int .i64 d0) rfl) 1 (.bool d1) rfl) 2 (.slice Bq15 ds.length eq15) rfl) (by decide) 3 (.slice Dq15 dd.length fq15))
  have BY := Aside0.mk (below_set (j := 3) (v := .slice Dq15 dd.length fq15) (below_set (j := 2) (v := .slice Bq15 ds.length eq15) (below_set (j := 1) (v := .bool d1) (below_set (j := 0) (v := .int .i64 d0) (BW.out) GB.out) GB.out) GB.out) GB.out)
  clear KB R8 R9 BW
  generalize ((((w26.setCell ⟨g15, 0, none⟩ (.int .i64 d0)).setCell ⟨g15, 1, none⟩ (.bool d1)).setCell ⟨g15, 2, none⟩ (.slice Bq15 ds.length eq15)).setCell ⟨g15, 3, none⟩ (.slice Dq15 dd.length fq15)) = w27 at KY Q8 Q9 BY ⊢
  have BSZ := (F256.out).size
  have Z26 : Aside0 (q31.heap.size ≤ w27.heap.size) := ⟨BY.out.size⟩
  have F266 : Aside0 (Below w.heap.size w w27) := ⟨below_step F256.out BY.out⟩
  clear F256
  have F267 : Aside0 (w27.heap[gl]? = some (.cells #[.int .i64 n, .slice A l.length c] 25 (0, 0))) := ⟨blk_below F257.out BY.out⟩
  clear F257
  have F268 : Aside0 (w27.heap[gt]? = some (.cells #[.bool b, .slice A1 ls.length c1, .slice A2 lb.length c2] 77 (0, 0))) := ⟨blk_below F258.out BY.out⟩
  clear F258
  have F269 : Aside0 (w27.heap[ge]? = some (.cells #[.int .i64 op, .int .i64 of, .int .i64 dir] 54 (0, 0))) := ⟨blk_below F259.out BY.out⟩
  clear F259
  have F270 : Aside0 (Kd.R k50 50 w27 w.heap.size (fun k => q8.heap.size ≤ k ∧ k < w7.heap.size) (.slice Bq8 ds.length eq8) ds) := ⟨Kd.R_below F260.out BY.out⟩
  clear F260
  have F271 : Aside0 (Kd.R Kd.bool 4 w27 w.heap.size (fun k => q8.heap.size ≤ k ∧ k < w7.heap.size) (.slice Dq8 dd.length fq8) dd) := ⟨Kd.R_below F261.out BY.out⟩
  clear F261
  have F272 : Aside0 (w27.heap[g8]? = some (.cells #[.int .i64 d0, .bool d1, .slice Bq8 ds.length eq8, .slice Dq8 dd.length fq8] 48 (0, 0))) := ⟨blk_below F262.out BY.out⟩
  clear F262
  have F273 : Aside0 (Kd.R k50 50 w27 w.heap.size (fun _ => True) (.slice Bq11 ds.length eq11) (marks mkS 5 1 ds.length)) := ⟨Kd.R_below F263.out BY.out⟩
  clear F263
  have F274 : Aside0 (w27.heap[g11]? = some (.cells #[.int .i64 d0, .bool d1, .slice Bq11 ds.length eq11, .slice Dq11 dd.length fq11] 48 (0, 0))) := ⟨blk_below F264.out BY.out⟩
  clear F264
  have F275 : Aside0 (Kd.R Kd.bool 4 w27 w.heap.size (fun _ => True) (.slice Dq11 dd.length fq11) (marks mkB 1 (1 + 5 * (ds.length : Int)) dd.length)) := ⟨Kd.R_below F265.out BY.out⟩
  clear F265
  have h8 := Q8.out
  have h9 := Q9.out
  have H0B := Aside0.mk KY.out
  have H0H : Aside0 (g15 < w27.heap.size) := ⟨blk_lt KY.out⟩
  have H0G := Aside0.mk GB.out
  clear KY Q8 Q9 BY GB
  have F276 : Aside0 (Kd.R k50 50 w27 w.heap.size (fun k => q31.heap.size ≤ k ∧ k < w27.heap.size) (.slice Bq15 ds.length eq15) ds) := ⟨Kd.R_mono (Kd.R_lower (Kd.R_bound h8) BSZ) (fun k hq => ⟨hq.2.1, hq.2.2.1⟩)⟩
  clear h8
  have F277 : Aside0 (Kd.R Kd.bool 4 w27 w.heap.size (fun k => q31.heap.size ≤ k ∧ k < w27.heap.size) (.slice Dq15 dd.length fq15) dd) := ⟨Kd.R_mono (Kd.R_lower (Kd.R_bound h9) BSZ) (fun k hq => ⟨hq.2.1, hq.2.2.1⟩)⟩
  clear h9
  clear BSZ
  go_upto_region 32 with fail
  have kh0 : w27.cell? ⟨g15, 0, none⟩ = some (.int .i64 d0) := (blk_cell H0B.out 0).trans rfl
  have kh1 : w27.cell? ⟨g15, 1, none⟩ = some (.bool d1) := (blk_cell H0B.out 1).trans rfl
  have kh2 : w27.cell? ⟨g15, 2, none⟩ = some (.slice Bq15 ds.length eq15) := (blk_cell H0B.out 2).trans rfl
  have kh3 : w27.cell? ⟨g15, 3, none⟩ = some (.slice Dq15 dd.length fq15) := (blk_cell H0B.out 3).trans rfl
  have kw0 : w27.cell? ⟨g8, 0, none⟩ = some (.int .i64 d0) := (blk_cell F272.out 0).trans rfl
  have kw1 : w27.cell? ⟨g8, 1, none⟩ = some (.bool d1) := (blk_cell F272.out 1).trans rfl
  have kw2 : w27.cell? ⟨g8, 2, none⟩ = some (.slice Bq8 ds.length eq8) := (blk_cell F272.out 2).trans rfl
  have kw3 : w27.cell? ⟨g8, 3, none⟩ = some (.slice Dq8 dd.length fq8) := (blk_cell F272.out 3).trans rfl
  go_upto_region 34 with (go_at_call 71; refine (eqD_at HDS.out HDD.out (Kd.R_reads' F276.out).2.2 (Kd.R_reads' F276.out).2.1 (Kd.R_reads' F277.out).2.2 (Kd.R_reads' F277.out).2.1 (Kd.R_reads' F270.out).2.2 (Kd.R_reads' F270.out).2.1 (Kd.R_reads' F271.out).2.2 (Kd.R_reads' F271.out).2.1).mono ?_; rintro e w28 ⟨rfl, hb⟩; have Z27 : Aside0 (w27.heap.size ≤ w28.heap.size) := ⟨hb.size⟩; have F278 : Aside0 (Below w.heap.size w w28) := ⟨below_step F266.out hb⟩; clear F266; have F279 : Aside0 (w28.heap[gl]? = some (.cells #[.int .i64 n, .slice A l.length c] 25 (0, 0))) := ⟨blk_below F267.out hb⟩; clear F267; have F280 : Aside0 (w28.heap[gt]? = some (.cells #[.bool b, .slice A1 ls.length c1, .slice A2 lb.length c2] 77 (0, 0))) := ⟨blk_below F268.out hb⟩; clear F268; have F281 : Aside0 (w28.heap[ge]? = some (.cells #[.int .i64 op, .int .i64 of, .int .i64 dir] 54 (0, 0))) := ⟨blk_below F269.out hb⟩; clear F269; have F282 : Aside0 (Kd.R k50 50 w28 w.heap.size (fun k => q8.heap.size ≤ k ∧ k < w7.heap.size) (.slice Bq8 ds.length eq8) ds) := ⟨Kd.R_below F270.out hb⟩; clear F270; have F283 : Aside0 (Kd.R Kd.bool 4 w28 w.heap.size (fun k => q8.heap.size ≤ k ∧ k < w7.heap.size) (.slice Dq8 dd.length fq8) dd) := ⟨Kd.R_below F271.out hb⟩; clear F271; have F284 : Aside0 (w28.heap[g8]? = some (.cells #[.int .i64 d0, .bool d1, .slice Bq8 ds.length eq8, .slice Dq8 dd.length fq8] 48 (0, 0))) := ⟨blk_below F272.out hb⟩; clear F272; have F285 : Aside0 (Kd.R k50 50 w28 w.heap.size (fun _ => True) (.slice Bq11 ds.length eq11) (marks mkS 5 1 ds.length)) := ⟨Kd.R_below F273.out hb⟩; clear F273; have F286 : Aside0 (w28.heap[g11]? = some (.cells #[.int .i64 d0, .bool d1, .slice Bq11 ds.length eq11, .slice Dq11 dd.length fq11] 48 (0, 0))) := ⟨blk_below F274.out hb⟩; clear F274; have F287 : Aside0 (Kd.R Kd.bool 4 w28 w.heap.size (fun _ => True) (.slice Dq11 dd.length fq11) (marks mkB 1 (1 + 5 * (ds.length : Int)) dd.length)) := ⟨Kd.R_below F275.out hb⟩; clear F275; have F288 : Aside0 (Kd.R k50 50 w28 w.heap.size (fun k => q31.heap.size ≤ k ∧ k < w27.heap.size) (.slice Bq15 ds.length eq15) ds) := ⟨Kd.R_below F276.out hb⟩; clear F276; have F289 : Aside0 (Kd.R Kd.bool 4 w28 w.heap.size (fun k => q31.heap.size ≤ k ∧ k < w27.heap.size) (.slice Dq15 dd.length fq15) dd) := ⟨Kd.R_below F277.out hb⟩; clear F277; have F290 : Aside0 (w28.heap[g15]? = some (.cells #[.int .i64 d0, .bool d1, .slice Bq15 ds.length eq15, .slice Dq15 dd.length fq15] 48 (0, 0))) := ⟨blk_below H0B.out hb⟩; clear H0B; clear hb)
  clear kh0 kh1 kh2 kh3 kw0 kw1 kw2 kw3
  have kg0 : w28.cell? ⟨g11, 0, none⟩ = some (.int .i64 d0) := (blk_cell F286.out 0).trans rfl
  have kg1 : w28.cell? ⟨g11, 1, none⟩ = some (.bool d1) := (blk_cell F286.out 1).trans rfl
  have kg2 : w28.cell? ⟨g11, 2, none⟩ = some (.slice Bq11 ds.length eq11) := (blk_cell F286.out 2).trans rfl
  have kg3 : w28.cell? ⟨g11, 3, none⟩ = some (.slice Dq11 dd.length fq11) := (blk_cell F286.out 3).trans rfl
  go_wp2_with (go_at_call 73; refine (heldD_at HMM.out HDS.out HDD.out F285.out F287.out).mono ?_; rintro e w29 ⟨rfl, hb⟩; have Z28 : Aside0 (w28.heap.size ≤ w29.heap.size) := ⟨hb.size⟩; have F291 : Aside0 (Below w.heap.size w w29) := ⟨below_step F278.out hb⟩; clear F278; have F292 : Aside0 (w29.heap[gl]? = some (.cells #[.int .i64 n, .slice A l.length c] 25 (0, 0))) := ⟨blk_below F279.out hb⟩; clear F279; have F293 : Aside0 (w29.heap[gt]? = some (.cells #[.bool b, .slice A1 ls.length c1, .slice A2 lb.length c2] 77 (0, 0))) := ⟨blk_below F280.out hb⟩; clear F280; have F294 : Aside0 (w29.heap[ge]? = some (.cells #[.int .i64 op, .int .i64 of, .int .i64 dir] 54 (0, 0))) := ⟨blk_below F281.out hb⟩; clear F281; have F295 : Aside0 (Kd.R k50 50 w29 w.heap.size (fun k => q8.heap.size ≤ k ∧ k < w7.heap.size) (.slice Bq8 ds.length eq8) ds) := ⟨Kd.R_below F282.out hb⟩; clear F282; have F296 : Aside0 (Kd.R Kd.bool 4 w29 w.heap.size (fun k => q8.heap.size ≤ k ∧ k < w7.heap.size) (.slice Dq8 dd.length fq8) dd) := ⟨Kd.R_below F283.out hb⟩; clear F283; have F297 : Aside0 (w29.heap[g8]? = some (.cells #[.int .i64 d0, .bool d1, .slice Bq8 ds.length eq8, .slice Dq8 dd.length fq8] 48 (0, 0))) := ⟨blk_below F284.out hb⟩; clear F284; have F298 : Aside0 (Kd.R k50 50 w29 w.heap.size (fun _ => True) (.slice Bq11 ds.length eq11) (marks mkS 5 1 ds.length)) := ⟨Kd.R_below F285.out hb⟩; clear F285; have F299 : Aside0 (w29.heap[g11]? = some (.cells #[.int .i64 d0, .bool d1, .slice Bq11 ds.length eq11, .slice Dq11 dd.length fq11] 48 (0, 0))) := ⟨blk_below F286.out hb⟩; clear F286; have F300 : Aside0 (Kd.R Kd.bool 4 w29 w.heap.size (fun _ => True) (.slice Dq11 dd.length fq11) (marks mkB 1 (1 + 5 * (ds.length : Int)) dd.length)) := ⟨Kd.R_below F287.out hb⟩; clear F287; have F301 : Aside0 (Kd.R k50 50 w29 w.heap.size (fun k => q31.heap.size ≤ k ∧ k < w27.heap.size) (.slice Bq15 ds.length eq15) ds) := ⟨Kd.R_below F288.out hb⟩; clear F288; have F302 : Aside0 (Kd.R Kd.bool 4 w29 w.heap.size (fun k => q31.heap.size ≤ k ∧ k < w27.heap.size) (.slice Dq15 dd.length fq15) dd) := ⟨Kd.R_below F289.out hb⟩; clear F289; have F303 : Aside0 (w29.heap[g15]? = some (.cells #[.int .i64 d0, .bool d1, .slice Bq15 ds.length eq15, .slice Dq15 dd.length fq15] 48 (0, 0))) := ⟨blk_below F290.out hb⟩; clear F290; clear hb)
  go_ret
  exact ⟨rfl, F291.out⟩
theorem walk (n : Int) (A : Option Addr) (c : Nat) (l : List S160) (b : Bool) (A1 : Option Addr) (c1 : Nat) (ls : List S169) (A2 : Option Addr) (c2 : Nat) (lb : List Bool) (op of dir : Int) (w : World) (hr : Kd.C k160 w A l.length l) (hc : l.length ≤ c) (hr1 : Kd.C k169 w A1 ls.length ls) (hc1 : ls.length ≤ c1) (hr2 : Kd.C Kd.bool w A2 lb.length lb) (hc2 : lb.length ≤ c2) : Calls Try.prog 17 #[.agg #[.int .i64 n, .slice A l.length c], .agg #[.bool b, .slice A1 ls.length c1, .slice A2 lb.length c2], .agg #[.int .i64 op, .int .i64 of, .int .i64 dir]] w fun e w' => e = .returned (.bool true) ∧ Below w.heap.size w w' := by
  have b1 := hr.2.1
  have b2 := hr1.2.1
  have b3 := hr2.2.1
  have s1 := szLayout_eq n l 1048576 (by omega) (by omega) b1
  by_cases h : (1048576 : Int) < l.length
  · rw [if_pos h] at s1
    exact too1 n A c l b A1 c1 ls A2 c2 lb op of dir w hr hc hr1 hc1 hr2 hc2 _ s1 (by omega)
  · rw [if_neg h] at s1
    have s2 := szState_eq b ls lb (1048576 - l.length) (by omega) (by omega) b2 b3
    by_cases h2 : (1048576 : Int) - l.length < (ls.length : Int) + lb.length
    · rw [if_pos h2] at s2
      exact too2 n A c l b A1 c1 ls A2 c2 lb op of dir w hr hc hr1 hc1 hr2 hc2 _ _ s1 (by omega) s2 (by omega)
    · rw [if_neg h2] at s2
      have hq := dDone_len n (l.map cvC) b (ls.map cvS) lb op of dir
      exact whole n A c l b A1 c1 ls A2 c2 lb op of dir w hr hc hr1 hc1 hr2 hc2 _ _ s1 (by omega) s2 (by omega) (l.map cvC) (ls.map cvS) (by rw [List.length_map]; omega) (by rw [List.length_map]; omega) (by omega) (toLayout_ev n l (by omega)) (toState_ev b ls lb (by omega) (by omega)) _ _ _ _ rfl (Nat.le_trans hq.1 (by rw [List.length_map]; omega)) (Nat.le_trans hq.2 (by omega))
end Go.Proofs.Ytpdnabhpkdchjaa.WalkFnExactDo
namespace Go.Proofs.Ytpdnabhpkdchjaa.fnExactDo
open Go.ChangeShapes Go.WideShapes Go.ChangeAt Go.RowKit Go.Proofs.Ytpdnabhpkdchjaa.Open Go.Proofs.Ytpdnabhpkdchjaa.P
set_option linter.unusedVariables false
set_option maxRecDepth 100000 in
theorem lifted (os : Os) (started : os.Started) (H : Type) (enc : TypeId × Value → H) :
    ReturnsInHanded {} Try.checked os 17 .any (Rows.fnExactDoSpec.pre6 enc Try.prog Try.f17 Rows.fnExactDoRow.domain false) (Rows.fnExactDoSpec.post enc Try.prog Try.f17 false true false false) := by
  refine returnsInHanded_of_change_sized (C := Try.checked) Facts.own started (by kernel_rfl) Try.func17
    (ChangeSpec.witness6 (enc := enc) (C := Try.checked) false ⟨#[], #[.agg #[.int .i64 0, .slice none 0 0], .agg #[.bool false, .slice none 0 0, .slice none 0 0], .agg #[.int .i64 0, .int .i64 0, .int .i64 0]], []⟩ 8 (by kernel_rfl) (by kernel_rfl) (by kernel_rfl) (by kernel_rfl)) ?_
  intro W base args ds gs before hval0 hW hcnd hsz0 _
  have hval : ∀ (j : Nat) t v, Try.f17.params[j]? = some t → args[j]? = some v → Value.okWide Try.prog W .any base t v := hval0
  have hW' := hW
  obtain ⟨p, q, hA0, hV, rfl, hfz, hnd⟩ := hW
  have hA : DataW.TrodAll enc Try.prog W 0 (fun _ => true) true Try.f17.params.toList args.toList ds p := hA0
  rw [Try.params17] at hA hval
  obtain ⟨v0, vs0, d0, ds0, p0, q0, hargs, rfl, rfl, h0, r0⟩ := trodAll_cons hA
  obtain ⟨v1, vs1, d1, ds1, p1, q1, rfl, rfl, rfl, h1, r1⟩ := trodAll_cons r0
  obtain ⟨v2, vs2, d2, ds2, p2, q2, rfl, rfl, rfl, h2, r2⟩ := trodAll_cons r1
  obtain ⟨rfl, rfl, rfl⟩ := trodAll_nil r2
  obtain rfl : args = #[v0, v1, v2] := by cases args; simp_all
  obtain ⟨rfl, rfl⟩ := trodVars_none hV
  have k0 := h0
  have lt0 : ∀ x ∈ p0, x.block < W.heap.size := by obtain ⟨m, hm⟩ := k0; exact DataW.trod_lt m _ _ _ hm
  obtain ⟨n0, A0, c0, l0, rfl, hr0, hc0⟩ := arg_layout (hval 0 25 v0 rfl rfl) h0
  have k1 := h1
  have lt1 : ∀ x ∈ p1, x.block < W.heap.size := by obtain ⟨m, hm⟩ := k1; exact DataW.trod_lt m _ _ _ hm
  obtain ⟨b1, A1, c1, l1, B1, g1, m1, rfl, hr1, hc1, hs1, hd1⟩ := arg_state (hval 1 77 v1 rfl rfl) h1
  have k2 := h2
  have lt2 : ∀ x ∈ p2, x.block < W.heap.size := by obtain ⟨m, hm⟩ := k2; exact DataW.trod_lt m _ _ _ hm
  obtain ⟨x2, y2, z2, rfl⟩ := arg_event (hval 2 54 v2 rfl rfl) h2
  clear hA0 hval0 hsz0
  refine (WalkFnExactDo.walk n0 A0 c0 l0 b1 A1 c1 l1 B1 g1 m1 x2 y2 z2 W hr0 hc0 hr1 hc1 hs1 hd1).mono fun e W' ⟨he, bel⟩ => ?_
  subst he
  exact ⟨_, rfl, _, _, _, [], _, [], hW', trodAll_mk1 (shut_bool Try.underlying4 _), (trodAll_cons_mk (Below.trod Facts.laidOut (by kernel_rfl) (of_decide_eq_true (by kernel_rfl)) k0 bel lt0) (trodAll_cons_mk (Below.trod Facts.laidOut (by kernel_rfl) (of_decide_eq_true (by kernel_rfl)) k1 bel lt1) (trodAll_cons_mk (Below.trod Facts.laidOut (by kernel_rfl) (of_decide_eq_true (by kernel_rfl)) k2 bel lt2) trodAll_mk0))), rfl, bel.frame _, fun h => by cases h⟩
theorem k10 : (Rows.fnExactDoRow.inPlace == Try.prog.inPlace 17) = true := by kernel_rfl
theorem k11 : (Rows.fnExactDoRow.unfollowed == Try.prog.unfollowed 17) = true := by kernel_rfl
theorem k12 : (Rows.fnExactDoRow.recurses == Try.prog.recurses 17) = true := by kernel_rfl
theorem k13 : (Rows.fnExactDoRow.named == Try.prog.varsNamed 17) = true := by kernel_rfl
theorem over : Rows.fnExactDoRow.holds Try.pinned (OpenSpec.ofChange Rows.fnExactDoSpec) :=
  OpenClaim.holds_of_wide 17 Try.f17 rfl rfl rfl rfl rfl rfl rfl ⟨rfl, rfl, rfl, rfl, rfl⟩ rfl rfl rfl rfl rfl (by kernel_rfl) Try.func17
    (joined_of 17 Try.f17 Rows.fnExactDoSpec Rows.fnExactDoRow (by kernel_rfl) (by kernel_rfl) (by kernel_rfl) rfl rfl Facts.stopKnobs k10 k11 k12 k13 (by kernel_rfl) (by kernel_rfl) (by kernel_rfl) (by kernel_rfl) (by kernel_rfl) (by kernel_rfl) (by kernel_rfl) (by kernel_rfl) (by kernel_rfl) rfl rfl rfl rfl rfl rfl (by kernel_rfl) (by kernel_rfl) (by kernel_rfl))
    (of_decide_eq_true (by kernel_rfl)) (by unfold Func.isWrapper; rw [if_neg (by decide +kernel)]; exact ⟨rfl, rfl⟩)
    (fun os started H enc _ => lifted os started H enc)
theorem proved : Rows.FnExactDoSaid := over
end Go.Proofs.Ytpdnabhpkdchjaa.fnExactDo
namespace Go.Proofs.Ytpdnabhpkdchjaa
theorem fnExactDo_holds : Rows.FnExactDoSaid := fnExactDo.proved
#print axioms fnExactDo_holds
end Go.Proofs.Ytpdnabhpkdchjaa
