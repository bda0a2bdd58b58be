/- The statement FnExactDo holds of the given program, for every argument; there are no conditions. (Part 5 of 6.) -/
import Derived.Test.YtpdnabhpkdchjaaBFnExactDo4
namespace Go.Proofs.Ytpdnabhpkdchjaa.P
open Go.RowKit Go.Proofs.YtpdnabhpkdchjaaW.PrintWords Go.Proofs.YtpdnabhpkdchjaaW.PrintLast Go.Proofs.YtpdnabhpkdchjaaW.PrintMore
attribute [local go_sem ↓] Go.wp_at_zero Go.wp_at_succ
set_option linter.unusedVariables false
set_option linter.unusedSimpArgs false
def sd_T38 : Bool × List (List Nat × List Nat) := (true, [([], []), ([0], [0]), ([], []), ([], []), ([], []), ([4], [4]), ([], []), ([], []), ([7], [7]), ([], []), ([8, 9], [8, 9]), ([10], [10]), ([3, 5, 6, 11], [3, 5, 6, 11]), ([1, 2, 0, 1, 2, 3, 4, 5, 6, 7, 8, 9, 10, 11, 12], [1, 2]), ([13, 0, 1, 2, 3, 4, 5, 6, 7, 8, 9, 10, 11, 12], [13]), ([14, 12, 12, 0, 1, 2, 3, 4, 5, 6, 7, 8, 9, 10, 11, 12], [12, 14])])
def sd_B38 : List Nat := [0, 1, 0, 0, 0, 16, 0, 0, 128, 0, 896, 1920, 4088, 8191, 16383, 32767]
theorem sd_tab38 : rtab .any (opsOf Try.f69 38) = sd_T38 := by kernel_rfl
theorem sd_bits38 : waitsOk sd_T38.2 sd_B38 = true := by kernel_rfl
structure SpSt (w0 w : World) (gl gz go ge gd : Nat) (lv zv sv ev dv : List Value) (v1 v2 : Value) (ss : List S50) (dd : List Bool) : Prop where
  D : DoSt w0 w gl go ge gd lv sv ev dv v1 v2 ss dd
  hz : w.heap[gz]? = some (.cells zv.toArray 46 (0, 0))
section
variable {w0 w w' : World} {gl gz go ge gd : Nat} {lv zv sv ev dv : List Value} {v1 v2 : Value} {ss ss' : List S50} {dd dd' : List Bool}
theorem SpSt.up (h : SpSt w0 w gl gz go ge gd lv zv sv ev dv v1 v2 ss dd) (hb : Below w.heap.size w w') : SpSt w0 w' gl gz go ge gd lv zv sv ev dv v1 v2 ss dd := ⟨h.D.up hb, blk_below h.hz hb⟩
theorem SpSt.sec {gr m cr : Nat} (h : SpSt w0 w gl gz go ge gd lv zv sv ev dv (.slice (some ⟨gr, 0, none⟩) m cr) v2 ss dd) (H1 : Kd.R k50 50 w' w0.heap.size (fun _ => True) (.slice (some ⟨gr, 0, none⟩) m cr) ss') (hg : w.grownBy w' (some gr)) :
    SpSt w0 w' gl gz go ge gd lv zv sv ev dv (.slice (some ⟨gr, 0, none⟩) m cr) v2 ss' dd := ⟨h.D.sec H1 hg, blk_grown h.hz hg (Kd.R_ne h.D.H1 h.hz (by decide))⟩
theorem SpSt.dead {gb m cb : Nat} (h : SpSt w0 w gl gz go ge gd lv zv sv ev dv v1 (.slice (some ⟨gb, 0, none⟩) m cb) ss dd) (i : Int) (x : Bool) :
    SpSt w0 (w.setCell ⟨gb, i.toNat, none⟩ (.bool x)) gl gz go ge gd lv zv sv ev dv v1 (.slice (some ⟨gb, 0, none⟩) m cb) ss (dd.set i.toNat x) :=
  ⟨h.D.dead i x, blk_grown h.hz (Kd.R_putg h.D.H2 i x).2 (Kd.R_ne h.D.H2 h.hz (by decide))⟩
end
theorem in_any (s : Int) (bo : Bool) (g gr n c : Nat) (v2 : Value) (l : List S50) (w : World) (base : Nat) (ok : Nat → Prop) (h1 : s < n)
    (hb : w.heap[g]? = some (.cells #[.bool bo, .slice (some ⟨gr, 0, none⟩) n c, v2] 46 (0, 0))) (HO : Kd.R k50 50 w base ok (.slice (some ⟨gr, 0, none⟩) n c) l) :
    Calls Try.prog 118 #[.pointer (some ⟨g, 0, none⟩), .int .i64 s, .int .i64 1] w fun e w' => e = .returned (.tuple #[]) ∧ Kd.R k50 50 w' base ok (.slice (some ⟨gr, 0, none⟩) n c) (addS l s 1) ∧ w.grownBy w' (some gr) := by
  by_cases h0 : s < 0
  · refine (add_none s 1 _ w h0).mono ?_
    rintro e w' ⟨he, rfl⟩
    exact ⟨he, by rw [addS, if_pos h0]; exact HO, World.grownBy.refl w _⟩
  · rw [addS, if_neg h0]
    exact add_in s bo g gr n c v2 l w base ok (by omega) h1 hb HO
theorem out_any (s : Int) (bo : Bool) (g gr n c : Nat) (v2 : Value) (l : List S50) (w : World) (base : Nat) (ok : Nat → Prop) (h1 : s < n)
    (hb : w.heap[g]? = some (.cells #[.bool bo, .slice (some ⟨gr, 0, none⟩) n c, v2] 46 (0, 0))) (HO : Kd.R k50 50 w base ok (.slice (some ⟨gr, 0, none⟩) n c) l) :
    Calls Try.prog 118 #[.pointer (some ⟨g, 0, none⟩), .int .i64 s, .int .i64 (-1)] w fun e w' => e = .returned (.tuple #[]) ∧ Kd.R k50 50 w' base ok (.slice (some ⟨gr, 0, none⟩) n c) (addS l s (-1)) ∧ w.grownBy w' (some gr) := by
  by_cases h0 : s < 0
  · refine (add_none s (-1) _ w h0).mono ?_
    rintro e w' ⟨he, rfl⟩
    exact ⟨he, by rw [addS, if_pos h0]; exact HO, World.grownBy.refl w _⟩
  · rw [addS, if_neg h0]
    exact add_out s bo g gr n c v2 l w base ok (by omega) h1 hb HO
section
variable {n : Int} {A : Option Addr} {c : Nat} {l : List S88} {b : Bool} {A1 : Option Addr} {c1 : Nat} {ss : List S50} {A2 : Option Addr} {c2 : Nat} {dd : List Bool} {w : World}
theorem sev_at {v : Bool} (op of dir : Int) (hv : eventOk n l op of dir = v) (hr : Kd.C k88 w A l.length l) (hc : l.length ≤ c) : Calls Try.prog 34 #[.agg #[.int .i64 n, .slice A l.length c], .agg #[.int .i64 op, .int .i64 of, .int .i64 dir]] w fun e w' => e = .returned (.bool v) ∧ Below w.heap.size w w' := hv ▸ sev_is op of dir hr hc
theorem sdead_at {x : Bool} (i : Int) (hx : deadAt l dd i = x) (hr : Kd.C k88 w A l.length l) (hc : l.length ≤ c) (hr2 : Kd.C Kd.bool w A2 dd.length dd) (hc2 : dd.length ≤ c2) (hl : layoutOk n l = 0) (h0 : 0 ≤ i) (h1 : i < n) (hd : dd.length = l.length) :
    Calls Try.prog 114 #[.agg #[.int .i64 n, .slice A l.length c], .slice A2 dd.length c2, .int .i64 i] w fun e w' => e = .returned (.bool x) ∧ Below w.heap.size w w' := by
  obtain ⟨k, h⟩ := (specDead_ev n l dd i hl ⟨h0, h1⟩ hd).rounds
  rw [← hx]
  exact spec_l2dead.calls k n A c l A2 c2 dd i _ w hr hc hr2 hc2 h
theorem stold_of {m2 b2 : Nat} {o2 : Nat → Prop} (i : Int) (x : S50) (hr : Kd.C k88 w A l.length l) (hc : l.length ≤ c) (H2 : Kd.R Kd.bool 4 w b2 o2 (.slice A2 m2 c2) dd) (e2 : m2 = dd.length) (hl : layoutOk n l = 0) (h0 : 0 ≤ i) (h1 : i < n) (hd : dd.length = l.length) :
    Calls Try.prog 113 #[.agg #[.int .i64 n, .slice A l.length c], .slice A2 m2 c2, .int .i64 i, .agg #[.int .i64 x.f0, .int .i64 x.f1, .bool x.f2, .bool x.f3, .int .i64 x.f4]] w fun e w' => e = .returned (.int .i64 (toldC l dd i x)) ∧ Below w.heap.size w w' := by
  subst e2
  obtain ⟨k, h⟩ := (specTold_ev n l dd i x hl ⟨h0, h1⟩ hd).rounds
  exact spec_l2told.calls k n A c l A2 c2 dd i x.f0 x.f1 x.f2 x.f3 x.f4 _ w hr hc (Kd.R_reads' H2).2.2 (Kd.R_reads' H2).2.1 h
end
def loseTo (ss : List S50) (f t : Int) : Nat → List S50
  | 0 => ss
  | 1 => loseAt ss f
  | _ => loseAt (loseAt ss f) t
set_option maxHeartbeats 4000000 in
set_option maxRecDepth 100000 in
theorem sdo_badE (n : Int) (A : Option Addr) (c : Nat) (l : List S88) (b : Bool) (A1 : Option Addr) (c1 : Nat) (ss : List S50) (A2 : Option Addr) (c2 : Nat) (dd : List Bool) (op of dir : Int) (w : World)
    (hr : Kd.C k88 w A l.length l) (hc : l.length ≤ c) (hr1 : Kd.C k50 w A1 ss.length ss) (hc1 : ss.length ≤ c1) (hr2 : Kd.C Kd.bool w A2 dd.length dd) (hc2 : dd.length ≤ c2) (hst : stateOk n l b ss dd = true) (hev : eventOk n l op of dir = false) :
    Calls Try.prog 69 #[.agg #[.int .i64 n, .slice A l.length c], .agg #[.bool b, .slice A1 ss.length c1, .slice A2 dd.length c2], .agg #[.int .i64 op, .int .i64 of, .int .i64 dir]] w fun e w' => e = .returned (.agg #[.int .i64 1, .bool false, .slice none 0 0, .slice none 0 0]) ∧ Below w.heap.size w w' := by
  have HR := Aside0.mk hr
  have HR1 := Aside0.mk hr1
  have HR2 := Aside0.mk hr2
  clear hr hr1 hr2
  go_enter Try.func69, Try.ntmps69
  go_upto_region 1 with (first | ((with_reducible refine gate_dst (N := 3) rfl ?_); refine box_event ?hg (N := 3) ?hd (cs := #[.int .i64 n, .slice A l.length c]) (t := 30) ?hr ?_; (case hd => rfl); (case hg => rfl); (case hr => first | (go_simp; done) | (go_simp; rfl)); intro gl el wl kl bl) | ((with_reducible refine gate_dst (N := 4) rfl ?_); refine box_event ?hg (N := 4) ?hd (cs := #[.bool b, .slice A1 ss.length c1, .slice A2 dd.length c2]) (t := 46) ?hr ?_; (case hd => rfl); (case hg => rfl); (case hr => first | (go_simp; done) | (go_simp; rfl)); intro gz ez wz kz bz) | ((with_reducible refine gate_dst (N := 5) rfl ?_); refine box_event ?hg (N := 5) ?hd (cs := #[.int .i64 op, .int .i64 of, .int .i64 dir]) (t := 56) ?hr ?_; (case hd => rfl); (case hg => rfl); (case hr => first | (go_simp; done) | (go_simp; rfl)); intro ge ee we ke be) | ((with_reducible refine gate_dst (N := 6) rfl ?_); refine box_event ?hg (N := 6) ?hd (cs := #[.int .i64 0, .bool false, .slice none 0 0, .slice none 0 0]) (t := 48) ?hr ?_; (case hd => rfl); (case hg => rfl); (case hr => first | (go_simp; done) | (go_simp; rfl)); intro gd ed wd kd_ bd))
  have KL := Aside0.mk (blk_below (blk_below (blk_below kl bz) be) bd)
  have KZ := Aside0.mk (blk_below (blk_below kz be) bd)
  have KE := Aside0.mk (blk_below ke bd)
  have KD := Aside0.mk kd_
  have BB := Aside0.mk (below_step (below_step (below_step bl bz) be) bd)
  have GL := Aside0.mk (show w.heap.size ≤ gl by rw [el]; exact Nat.le_refl _)
  have GZ := Aside0.mk (show w.heap.size ≤ gz by rw [ez]; exact bl.size)
  have GE := Aside0.mk (show w.heap.size ≤ ge by rw [ee]; exact (below_step bl bz).size)
  have GD := Aside0.mk (show w.heap.size ≤ gd by rw [ed]; exact (below_step (below_step bl bz) be).size)
  clear kl kz ke kd_ bl bz be bd el ez ee ed
  simp only [Act.put, List.setIfInBounds_toArray, List.set_cons_zero, List.set_cons_succ]
  have kl0 : wd.cell? ⟨gl, 0, none⟩ = some (.int .i64 n) := (blk_cell KL.out 0).trans rfl
  have kl1 : wd.cell? ⟨gl, 1, none⟩ = some (.slice A l.length c) := (blk_cell KL.out 1).trans rfl
  have kz0 : wd.cell? ⟨gz, 0, none⟩ = some (.bool b) := (blk_cell KZ.out 0).trans rfl
  have kz1 : wd.cell? ⟨gz, 1, none⟩ = some (.slice A1 ss.length c1) := (blk_cell KZ.out 1).trans rfl
  have kz2 : wd.cell? ⟨gz, 2, none⟩ = some (.slice A2 dd.length c2) := (blk_cell KZ.out 2).trans rfl
  have ke0 : wd.cell? ⟨ge, 0, none⟩ = some (.int .i64 op) := (blk_cell KE.out 0).trans rfl
  have ke1 : wd.cell? ⟨ge, 1, none⟩ = some (.int .i64 of) := (blk_cell KE.out 1).trans rfl
  have ke2 : wd.cell? ⟨ge, 2, none⟩ = some (.int .i64 dir) := (blk_cell KE.out 2).trans rfl
  have kd0 : wd.cell? ⟨gd, 0, none⟩ = some (.int .i64 0) := (blk_cell KD.out 0).trans rfl
  have kd1 : wd.cell? ⟨gd, 1, none⟩ = some (.bool false) := (blk_cell KD.out 1).trans rfl
  have kd2 : wd.cell? ⟨gd, 2, none⟩ = some (.slice none 0 0) := (blk_cell KD.out 2).trans rfl
  have kd3 : wd.cell? ⟨gd, 3, none⟩ = some (.slice none 0 0) := (blk_cell KD.out 3).trans rfl
  have zd0 := blk_frozen KD.out 0
  have zd1 := blk_frozen KD.out 1
  have zd2 := blk_frozen KD.out 2
  have zd3 := blk_frozen KD.out 3
  go_wp2_with (first | (go_at_call 56; refine (sst_ok hst (Kd.C_below HR.out BB.out) hc (Kd.C_below HR1.out BB.out) hc1 (Kd.C_below HR2.out BB.out) hc2).mono ?_; rintro e w1 ⟨rfl, hb⟩; have KL := Aside0.mk (blk_below KL.out hb); have KZ := Aside0.mk (blk_below KZ.out hb); have KE := Aside0.mk (blk_below KE.out hb); have KD := Aside0.mk (blk_below KD.out hb); have BB := Aside0.mk (below_step BB.out hb); clear hb; have kl0 : w1.cell? ⟨gl, 0, none⟩ = some (.int .i64 n) := (blk_cell KL.out 0).trans rfl; have kl1 : w1.cell? ⟨gl, 1, none⟩ = some (.slice A l.length c) := (blk_cell KL.out 1).trans rfl; have kz0 : w1.cell? ⟨gz, 0, none⟩ = some (.bool b) := (blk_cell KZ.out 0).trans rfl; have kz1 : w1.cell? ⟨gz, 1, none⟩ = some (.slice A1 ss.length c1) := (blk_cell KZ.out 1).trans rfl; have kz2 : w1.cell? ⟨gz, 2, none⟩ = some (.slice A2 dd.length c2) := (blk_cell KZ.out 2).trans rfl; have ke0 : w1.cell? ⟨ge, 0, none⟩ = some (.int .i64 op) := (blk_cell KE.out 0).trans rfl; have ke1 : w1.cell? ⟨ge, 1, none⟩ = some (.int .i64 of) := (blk_cell KE.out 1).trans rfl; have ke2 : w1.cell? ⟨ge, 2, none⟩ = some (.int .i64 dir) := (blk_cell KE.out 2).trans rfl; have kd0 : w1.cell? ⟨gd, 0, none⟩ = some (.int .i64 0) := (blk_cell KD.out 0).trans rfl; have kd1 : w1.cell? ⟨gd, 1, none⟩ = some (.bool false) := (blk_cell KD.out 1).trans rfl; have kd2 : w1.cell? ⟨gd, 2, none⟩ = some (.slice none 0 0) := (blk_cell KD.out 2).trans rfl; have kd3 : w1.cell? ⟨gd, 3, none⟩ = some (.slice none 0 0) := (blk_cell KD.out 3).trans rfl; have zd0 := blk_frozen KD.out 0; have zd1 := blk_frozen KD.out 1; have zd2 := blk_frozen KD.out 2; have zd3 := blk_frozen KD.out 3) | (go_at_call 34; refine (sev_at op of dir hev (Kd.C_below HR.out BB.out) hc).mono ?_; rintro e w2 ⟨rfl, hb⟩; have KL := Aside0.mk (blk_below KL.out hb); have KZ := Aside0.mk (blk_below KZ.out hb); have KE := Aside0.mk (blk_below KE.out hb); have KD := Aside0.mk (blk_below KD.out hb); have BB := Aside0.mk (below_step BB.out hb); clear hb; have kl0 : w2.cell? ⟨gl, 0, none⟩ = some (.int .i64 n) := (blk_cell KL.out 0).trans rfl; have kl1 : w2.cell? ⟨gl, 1, none⟩ = some (.slice A l.length c) := (blk_cell KL.out 1).trans rfl; have kz0 : w2.cell? ⟨gz, 0, none⟩ = some (.bool b) := (blk_cell KZ.out 0).trans rfl; have kz1 : w2.cell? ⟨gz, 1, none⟩ = some (.slice A1 ss.length c1) := (blk_cell KZ.out 1).trans rfl; have kz2 : w2.cell? ⟨gz, 2, none⟩ = some (.slice A2 dd.length c2) := (blk_cell KZ.out 2).trans rfl; have ke0 : w2.cell? ⟨ge, 0, none⟩ = some (.int .i64 op) := (blk_cell KE.out 0).trans rfl; have ke1 : w2.cell? ⟨ge, 1, none⟩ = some (.int .i64 of) := (blk_cell KE.out 1).trans rfl; have ke2 : w2.cell? ⟨ge, 2, none⟩ = some (.int .i64 dir) := (blk_cell KE.out 2).trans rfl; have kd0 : w2.cell? ⟨gd, 0, none⟩ = some (.int .i64 0) := (blk_cell KD.out 0).trans rfl; have kd1 : w2.cell? ⟨gd, 1, none⟩ = some (.bool false) := (blk_cell KD.out 1).trans rfl; have kd2 : w2.cell? ⟨gd, 2, none⟩ = some (.slice none 0 0) := (blk_cell KD.out 2).trans rfl; have kd3 : w2.cell? ⟨gd, 3, none⟩ = some (.slice none 0 0) := (blk_cell KD.out 3).trans rfl; have zd0 := blk_frozen KD.out 0; have zd1 := blk_frozen KD.out 1; have zd2 := blk_frozen KD.out 2; have zd3 := blk_frozen KD.out 3))
  have KF := blk_put (blk_put (blk_put (blk_put KD.out 0 (.int .i64 1) rfl) 1 (.bool false) rfl) 2 (.slice none 0 0) rfl) 3 (.slice none 0 0) rfl
  have BF := below_set (j := 3) (v := .slice none 0 0) (below_set (j := 2) (v := .slice none 0 0) (below_set (j := 1) (v := .bool false) (below_set (j := 0) (v := .int .i64 1) BB.out GD.out) GD.out) GD.out) GD.out
  exact bodyPost_ret (results_cell_row rfl _ _ gd 48 _ (0, 0) _ rfl KF Try.underlying48 rfl (by kernel_rfl)) rfl ⟨rfl, BF⟩
set_option maxHeartbeats 16000000 in
set_option maxRecDepth 100000 in
theorem sdo_is (n : Int) (A : Option Addr) (c : Nat) (l : List S88) (b : Bool) (A1 : Option Addr) (c1 : Nat) (ss : List S50) (A2 : Option Addr) (c2 : Nat) (dd : List Bool) (op of dir : Int) (w : World)
    (hr : Kd.C k88 w A l.length l) (hc : l.length ≤ c) (hr1 : Kd.C k50 w A1 ss.length ss) (hc1 : ss.length ≤ c1) (hr2 : Kd.C Kd.bool w A2 dd.length dd) (hc2 : dd.length ≤ c2)
    (hst : stateOk n l b ss dd = true) (hev : eventOk n l op of dir = true) :
    Calls Try.prog 69 #[.agg #[.int .i64 n, .slice A l.length c], .agg #[.bool b, .slice A1 ss.length c1, .slice A2 dd.length c2], .agg #[.int .i64 op, .int .i64 of, .int .i64 dir]] w fun e w' => ∃ v2_ v3_ : Value, e = .returned (.agg #[.int .i64 (doCode l ss dd op of), .bool true, v2_, v3_]) ∧ Kd.R k50 50 w' w.heap.size (fun _ => True) v2_ (doSecs l ss dd op of dir) ∧ Kd.R Kd.bool 4 w' w.heap.size (fun _ => True) v3_ (doDead l ss dd op of) ∧ Below w.heap.size w w' := by
  obtain ⟨hl, rfl, hns, hnd, hsec⟩ := stateOk_of hst
  have hn := lay_n hl
  have hs : ss.length ≤ 1048576 := by omega
  have hd : dd.length ≤ 1048576 := by omega
  have hpos : 0 < ss.length := by omega
  have HST := Aside0.mk hst
  have HEV := Aside0.mk hev
  have HSE := Aside0.mk hsec
  have HN := Aside0.mk (And.intro hl (And.intro hns (And.intro hnd hn)))
  clear hst hev hsec hl hns hnd hn
  have HR := Aside0.mk hr
  have HR1 := Aside0.mk hr1
  have HR2 := Aside0.mk hr2
  clear hr hr1 hr2
  go_enter Try.func69, Try.ntmps69
  go_upto_region 1 with (first | ((with_reducible refine gate_dst (N := 3) rfl ?_); refine box_event ?hg (N := 3) ?hd (cs := #[.int .i64 n, .slice A l.length c]) (t := 30) ?hr ?_; (case hd => rfl); (case hg => rfl); (case hr => first | (go_simp; done) | (go_simp; rfl)); intro gl el wl kl bl) | ((with_reducible refine gate_dst (N := 4) rfl ?_); refine box_event ?hg (N := 4) ?hd (cs := #[.bool true, .slice A1 ss.length c1, .slice A2 dd.length c2]) (t := 46) ?hr ?_; (case hd => rfl); (case hg => rfl); (case hr => first | (go_simp; done) | (go_simp; rfl)); intro gz ez wz kz bz) | ((with_reducible refine gate_dst (N := 5) rfl ?_); refine box_event ?hg (N := 5) ?hd (cs := #[.int .i64 op, .int .i64 of, .int .i64 dir]) (t := 56) ?hr ?_; (case hd => rfl); (case hg => rfl); (case hr => first | (go_simp; done) | (go_simp; rfl)); intro ge ee we ke be) | ((with_reducible refine gate_dst (N := 6) rfl ?_); refine box_event ?hg (N := 6) ?hd (cs := #[.int .i64 0, .bool false, .slice none 0 0, .slice none 0 0]) (t := 48) ?hr ?_; (case hd => rfl); (case hg => rfl); (case hr => first | (go_simp; done) | (go_simp; rfl)); intro gd ed wd kd_ bd))
  have KL := Aside0.mk (blk_below (blk_below (blk_below kl bz) be) bd)
  have KZ := Aside0.mk (blk_below (blk_below kz be) bd)
  have KE := Aside0.mk (blk_below ke bd)
  have KD := Aside0.mk kd_
  have BB := Aside0.mk (below_step (below_step (below_step bl bz) be) bd)
  have GL := Aside0.mk (show w.heap.size ≤ gl by rw [el]; exact Nat.le_refl _)
  have GZ := Aside0.mk (show w.heap.size ≤ gz by rw [ez]; exact bl.size)
  have GE := Aside0.mk (show w.heap.size ≤ ge by rw [ee]; exact (below_step bl bz).size)
  have GD := Aside0.mk (show w.heap.size ≤ gd by rw [ed]; exact (below_step (below_step bl bz) be).size)
  clear kl kz ke kd_ bl bz be bd el ez ee ed
  simp only [Act.put, List.setIfInBounds_toArray, List.set_cons_zero, List.set_cons_succ]
  have kl0 : wd.cell? ⟨gl, 0, none⟩ = some (.int .i64 n) := (blk_cell KL.out 0).trans rfl
  have kl1 : wd.cell? ⟨gl, 1, none⟩ = some (.slice A l.length c) := (blk_cell KL.out 1).trans rfl
  have kz0 : wd.cell? ⟨gz, 0, none⟩ = some (.bool true) := (blk_cell KZ.out 0).trans rfl
  have kz1 : wd.cell? ⟨gz, 1, none⟩ = some (.slice A1 ss.length c1) := (blk_cell KZ.out 1).trans rfl
  have kz2 : wd.cell? ⟨gz, 2, none⟩ = some (.slice A2 dd.length c2) := (blk_cell KZ.out 2).trans rfl
  have ke0 : wd.cell? ⟨ge, 0, none⟩ = some (.int .i64 op) := (blk_cell KE.out 0).trans rfl
  have ke1 : wd.cell? ⟨ge, 1, none⟩ = some (.int .i64 of) := (blk_cell KE.out 1).trans rfl
  have ke2 : wd.cell? ⟨ge, 2, none⟩ = some (.int .i64 dir) := (blk_cell KE.out 2).trans rfl
  have kd0 : wd.cell? ⟨gd, 0, none⟩ = some (.int .i64 0) := (blk_cell KD.out 0).trans rfl
  have kd1 : wd.cell? ⟨gd, 1, none⟩ = some (.bool false) := (blk_cell KD.out 1).trans rfl
  have kd2 : wd.cell? ⟨gd, 2, none⟩ = some (.slice none 0 0) := (blk_cell KD.out 2).trans rfl
  have kd3 : wd.cell? ⟨gd, 3, none⟩ = some (.slice none 0 0) := (blk_cell KD.out 3).trans rfl
  have zd0 := blk_frozen KD.out 0
  have zd1 := blk_frozen KD.out 1
  have zd2 := blk_frozen KD.out 2
  have zd3 := blk_frozen KD.out 3
  go_upto_region 4 with (first | (go_at_call 56; refine (sst_ok HST.out (Kd.C_below HR.out BB.out) hc (Kd.C_below HR1.out BB.out) hc1 (Kd.C_below HR2.out BB.out) hc2).mono ?_; rintro e w1 ⟨rfl, hb⟩; have KL := Aside0.mk (blk_below KL.out hb); have KZ := Aside0.mk (blk_below KZ.out hb); have KE := Aside0.mk (blk_below KE.out hb); have KD := Aside0.mk (blk_below KD.out hb); have BB := Aside0.mk (below_step BB.out hb); clear hb; have kl0 : w1.cell? ⟨gl, 0, none⟩ = some (.int .i64 n) := (blk_cell KL.out 0).trans rfl; have kl1 : w1.cell? ⟨gl, 1, none⟩ = some (.slice A l.length c) := (blk_cell KL.out 1).trans rfl; have kz0 : w1.cell? ⟨gz, 0, none⟩ = some (.bool true) := (blk_cell KZ.out 0).trans rfl; have kz1 : w1.cell? ⟨gz, 1, none⟩ = some (.slice A1 ss.length c1) := (blk_cell KZ.out 1).trans rfl; have kz2 : w1.cell? ⟨gz, 2, none⟩ = some (.slice A2 dd.length c2) := (blk_cell KZ.out 2).trans rfl; have ke0 : w1.cell? ⟨ge, 0, none⟩ = some (.int .i64 op) := (blk_cell KE.out 0).trans rfl; have ke1 : w1.cell? ⟨ge, 1, none⟩ = some (.int .i64 of) := (blk_cell KE.out 1).trans rfl; have ke2 : w1.cell? ⟨ge, 2, none⟩ = some (.int .i64 dir) := (blk_cell KE.out 2).trans rfl; have kd0 : w1.cell? ⟨gd, 0, none⟩ = some (.int .i64 0) := (blk_cell KD.out 0).trans rfl; have kd1 : w1.cell? ⟨gd, 1, none⟩ = some (.bool false) := (blk_cell KD.out 1).trans rfl; have kd2 : w1.cell? ⟨gd, 2, none⟩ = some (.slice none 0 0) := (blk_cell KD.out 2).trans rfl; have kd3 : w1.cell? ⟨gd, 3, none⟩ = some (.slice none 0 0) := (blk_cell KD.out 3).trans rfl; have zd0 := blk_frozen KD.out 0; have zd1 := blk_frozen KD.out 1; have zd2 := blk_frozen KD.out 2; have zd3 := blk_frozen KD.out 3) | (go_at_call 34; refine (sev_at op of dir HEV.out (Kd.C_below HR.out BB.out) hc).mono ?_; rintro e w2 ⟨rfl, hb⟩; have KL := Aside0.mk (blk_below KL.out hb); have KZ := Aside0.mk (blk_below KZ.out hb); have KE := Aside0.mk (blk_below KE.out hb); have KD := Aside0.mk (blk_below KD.out hb); have BB := Aside0.mk (below_step BB.out hb); clear hb; have kl0 : w2.cell? ⟨gl, 0, none⟩ = some (.int .i64 n) := (blk_cell KL.out 0).trans rfl; have kl1 : w2.cell? ⟨gl, 1, none⟩ = some (.slice A l.length c) := (blk_cell KL.out 1).trans rfl; have kz0 : w2.cell? ⟨gz, 0, none⟩ = some (.bool true) := (blk_cell KZ.out 0).trans rfl; have kz1 : w2.cell? ⟨gz, 1, none⟩ = some (.slice A1 ss.length c1) := (blk_cell KZ.out 1).trans rfl; have kz2 : w2.cell? ⟨gz, 2, none⟩ = some (.slice A2 dd.length c2) := (blk_cell KZ.out 2).trans rfl; have ke0 : w2.cell? ⟨ge, 0, none⟩ = some (.int .i64 op) := (blk_cell KE.out 0).trans rfl; have ke1 : w2.cell? ⟨ge, 1, none⟩ = some (.int .i64 of) := (blk_cell KE.out 1).trans rfl; have ke2 : w2.cell? ⟨ge, 2, none⟩ = some (.int .i64 dir) := (blk_cell KE.out 2).trans rfl; have kd0 : w2.cell? ⟨gd, 0, none⟩ = some (.int .i64 0) := (blk_cell KD.out 0).trans rfl; have kd1 : w2.cell? ⟨gd, 1, none⟩ = some (.bool false) := (blk_cell KD.out 1).trans rfl; have kd2 : w2.cell? ⟨gd, 2, none⟩ = some (.slice none 0 0) := (blk_cell KD.out 2).trans rfl; have kd3 : w2.cell? ⟨gd, 3, none⟩ = some (.slice none 0 0) := (blk_cell KD.out 3).trans rfl; have zd0 := blk_frozen KD.out 0; have zd1 := blk_frozen KD.out 1; have zd2 := blk_frozen KD.out 2; have zd3 := blk_frozen KD.out 3) | (go_at_call 93; refine (copy_is (Kd.C_below HR1.out BB.out) hc1 (Kd.C_below HR2.out BB.out) hc2 hs hd).mono ?_; rintro e w3 ⟨v1, v2, rfl, hR1, hR2, hb⟩; have H1 := Aside0.mk (Kd.R_lower hR1 BB.out.size); have H2 := Aside0.mk (Kd.R_lower hR2 BB.out.size); clear hR1 hR2; obtain ⟨gr, cr, e1, _, _, _⟩ := Kd.R_form H1.out hpos; obtain ⟨Ad, cd, e2⟩ := Kd.R_slice H2.out; subst e1 e2; have KL := Aside0.mk (blk_below KL.out hb); have KZ := Aside0.mk (blk_below KZ.out hb); have KE := Aside0.mk (blk_below KE.out hb); have KD := Aside0.mk (blk_below KD.out hb); have BB := Aside0.mk (below_step BB.out hb); clear hb; have kl0 : w3.cell? ⟨gl, 0, none⟩ = some (.int .i64 n) := (blk_cell KL.out 0).trans rfl; have kl1 : w3.cell? ⟨gl, 1, none⟩ = some (.slice A l.length c) := (blk_cell KL.out 1).trans rfl; have kz0 : w3.cell? ⟨gz, 0, none⟩ = some (.bool true) := (blk_cell KZ.out 0).trans rfl; have kz1 : w3.cell? ⟨gz, 1, none⟩ = some (.slice A1 ss.length c1) := (blk_cell KZ.out 1).trans rfl; have kz2 : w3.cell? ⟨gz, 2, none⟩ = some (.slice A2 dd.length c2) := (blk_cell KZ.out 2).trans rfl; have ke0 : w3.cell? ⟨ge, 0, none⟩ = some (.int .i64 op) := (blk_cell KE.out 0).trans rfl; have ke1 : w3.cell? ⟨ge, 1, none⟩ = some (.int .i64 of) := (blk_cell KE.out 1).trans rfl; have ke2 : w3.cell? ⟨ge, 2, none⟩ = some (.int .i64 dir) := (blk_cell KE.out 2).trans rfl; have kd0 : w3.cell? ⟨gd, 0, none⟩ = some (.int .i64 0) := (blk_cell KD.out 0).trans rfl; have kd1 : w3.cell? ⟨gd, 1, none⟩ = some (.bool false) := (blk_cell KD.out 1).trans rfl; have kd2 : w3.cell? ⟨gd, 2, none⟩ = some (.slice none 0 0) := (blk_cell KD.out 2).trans rfl; have kd3 : w3.cell? ⟨gd, 3, none⟩ = some (.slice none 0 0) := (blk_cell KD.out 3).trans rfl; have zd0 := blk_frozen KD.out 0; have zd1 := blk_frozen KD.out 1; have zd2 := blk_frozen KD.out 2; have zd3 := blk_frozen KD.out 3) | ((with_reducible refine gate_dst (N := 7) rfl ?_); refine box_event ?hg (N := 7) ?hd (cs := #[.bool false, .slice none 0 0, .slice none 0 0]) (t := 46) ?hr ?_; (case hd => rfl); (case hg => rfl); (case hr => first | (go_simp; done) | (go_simp; rfl)); intro go eo wo ko bo; have KO := Aside0.mk ko; have EO := Aside0.mk eo; have BO := Aside0.mk bo; have zo0 := blk_frozen ko 0; have zo1 := blk_frozen ko 1; have zo2 := blk_frozen ko 2; have ko0 := (blk_cell ko 0).trans (show _ = some (Value.bool false) from rfl); have ko1 := (blk_cell ko 1).trans (show _ = some (Value.slice none 0 0) from rfl); have ko2 := (blk_cell ko 2).trans (show _ = some (Value.slice none 0 0) from rfl); have ke0 := pw_cell_below bo ke0; clear bo eo ko))
  have KX := Aside0.mk (blk_put (blk_put (blk_put KO.out 0 (.bool true) rfl) 1 (.slice (some ⟨gr, 0, none⟩) ss.length cr) rfl) 2 (.slice Ad dd.length cd) rfl)
  have BX := Aside0.mk (below_set (j := 2) (v := (.slice Ad dd.length cd)) (below_set (j := 1) (v := (.slice (some ⟨gr, 0, none⟩) ss.length cr)) (below_set (j := 0) (v := .bool true) BO.out (Nat.le_of_eq EO.out.symm)) (Nat.le_of_eq EO.out.symm)) (Nat.le_of_eq EO.out.symm))
  have GO := Aside0.mk (show w.heap.size ≤ go by rw [EO.out]; exact BB.out.size)
  clear kl0 kl1 kz0 kz1 kz2 ke0 ke1 ke2 kd0 kd1 kd2 kd3 zd0 zd1 zd2 zd3 zo0 zo1 zo2 ko0 ko1 ko2
  have SA := Aside0.mk (show SpSt w (((wo.setCell ⟨go, 0, none⟩ (.bool true)).setCell ⟨go, 1, none⟩ (.slice (some ⟨gr, 0, none⟩) ss.length cr)).setCell ⟨go, 2, none⟩ (.slice Ad dd.length cd)) gl gz go ge gd [.int .i64 n, .slice A l.length c] [.bool true, .slice A1 ss.length c1, .slice A2 dd.length c2] [.bool true, .slice (some ⟨gr, 0, none⟩) ss.length cr, .slice Ad dd.length cd] [.int .i64 op, .int .i64 of, .int .i64 dir] [.int .i64 0, .bool false, .slice none 0 0, .slice none 0 0] (.slice (some ⟨gr, 0, none⟩) ss.length cr) (.slice Ad dd.length cd) ss dd from ⟨⟨blk_below KL.out BX.out, KX.out, blk_below KE.out BX.out, blk_below KD.out BX.out, R_up H1.out BX.out, R_up H2.out BX.out, below_step BB.out BX.out, GL.out, GO.out, GE.out, GD.out⟩, blk_below KZ.out BX.out⟩)
  clear KL KZ KE KD BB H1 H2 KO BO EO KX BX
  generalize (((wo.setCell ⟨go, 0, none⟩ (.bool true)).setCell ⟨go, 1, none⟩ (.slice (some ⟨gr, 0, none⟩) ss.length cr)).setCell ⟨go, 2, none⟩ (.slice Ad dd.length cd)) = wa at SA ⊢
  have kge0 : wa.cell? ⟨ge, 0, none⟩ = some (.int .i64 op) := (blk_cell SA.out.D.he 0).trans rfl
  go_upto_block 0 with fail
  clear kge0
  go_cut [8] from 9 to 126 (fun v8 wx => v8 = .int .i64 (doCode l ss dd op of) ∧ Aside0 (SpSt w wx gl gz go ge gd [.int .i64 n, .slice A l.length c] [.bool true, .slice A1 ss.length c1, .slice A2 dd.length c2] [.bool true, .slice (some ⟨gr, 0, none⟩) ss.length cr, .slice Ad dd.length cd] [.int .i64 op, .int .i64 of, .int .i64 dir] [.int .i64 0, .bool false, .slice none 0 0, .slice none 0 0] (.slice (some ⟨gr, 0, none⟩) ss.length cr) (.slice Ad dd.length cd) (midSecs2 l ss dd op of dir) (doDead l ss dd op of)))
  case first =>
    obtain ⟨hl, hns, hnd, hln⟩ := HN.out
    have HL2 := Aside0.mk hln
    rcases evOk_cases HEV.out with ⟨hop, ho0, ho1, hdir⟩ | ⟨hop, ho0, ho1⟩ | ⟨rfl, ho0, ho1⟩
    · skip
      have lr := lay_rd hl of ho0 ho1
      have ho2 := ho1
      rw [← hnd] at ho1
      obtain ⟨gb, cb, e, _, _, _⟩ := Kd.R_form SA.out.D.H2 (show 0 < dd.length by omega)
      cases e
      obtain ⟨x0, xf⟩ := bool_at SA.out.D.H2 of ho0 ho1
      obtain ⟨ad, e, y0, y1⟩ := at_T88 HR.out of ho0 ho2
      subst e
      obtain ⟨a2, e, -⟩ := HR2.out.2.2 (show 0 < dd.length by omega)
      subst e
      have u0 := Kd.foot_bool HR2.out of ho0 ho1
      have U0 := Aside0.mk u0
      have LR0 := Aside0.mk (show (rd_T88 l of).f0 < (ss.length : Int) by omega)
      have LR1 := Aside0.mk (show (rd_T88 l of).f1 < (ss.length : Int) by omega)
      clear lr hl hns hnd hln u0
      have Y0 := Aside0.mk y0
      have Y1 := Aside0.mk y1
      clear y0 y1
      rcases hop with rfl | rfl
      · skip
        have kge0 : wa.cell? ⟨ge, 0, none⟩ = some (.int .i64 1) := (blk_cell SA.out.D.he 0).trans rfl
        have kge1 : wa.cell? ⟨ge, 1, none⟩ = some (.int .i64 of) := (blk_cell SA.out.D.he 1).trans rfl
        have kge2 : wa.cell? ⟨ge, 2, none⟩ = some (.int .i64 dir) := (blk_cell SA.out.D.he 2).trans rfl
        have kgo0 : wa.cell? ⟨go, 0, none⟩ = some (.bool true) := (blk_cell SA.out.D.hs 0).trans rfl
        have kgo1 : wa.cell? ⟨go, 1, none⟩ = some (.slice (some ⟨gr, 0, none⟩) ss.length cr) := (blk_cell SA.out.D.hs 1).trans rfl
        have kgo2 : wa.cell? ⟨go, 2, none⟩ = some (.slice (some ⟨gb, 0, none⟩) dd.length cd) := (blk_cell SA.out.D.hs 2).trans rfl
        have kgz0 : wa.cell? ⟨gz, 0, none⟩ = some (.bool true) := (blk_cell SA.out.hz 0).trans rfl
        have kgz1 : wa.cell? ⟨gz, 1, none⟩ = some (.slice A1 ss.length c1) := (blk_cell SA.out.hz 1).trans rfl
        have kgz2 : wa.cell? ⟨gz, 2, none⟩ = some (.slice (some a2) dd.length c2) := (blk_cell SA.out.hz 2).trans rfl
        have kgl0 : wa.cell? ⟨gl, 0, none⟩ = some (.int .i64 n) := (blk_cell SA.out.D.hl 0).trans rfl
        have kgl1 : wa.cell? ⟨gl, 1, none⟩ = some (.slice (some ad) l.length c) := (blk_cell SA.out.D.hl 1).trans rfl
        have y0 := pw_cell_below SA.out.D.hB Y0.out
        have y1 := pw_cell_below SA.out.D.hB Y1.out
        go_upto_region 9 with (first | ((with_reducible refine gate_dst (N := 9) rfl ?_); refine box_event ?hg (N := 9) ?hd (cs := #[.int .i64 0, .int .i64 0]) (t := 88) ?hr ?_; (case hd => rfl); (case hg => rfl); (case hr => first | (go_simp; done) | (go_simp; rfl)); intro gc ec wb kc bc; have KC := Aside0.mk kc; have EC := Aside0.mk ec; have BC := Aside0.mk bc; have zc0 := blk_frozen kc 0; have zc1 := blk_frozen kc 1; have kc0 := (blk_cell kc 0).trans (show _ = some (Value.int .i64 0) from rfl); have kc1 := (blk_cell kc 1).trans (show _ = some (Value.int .i64 0) from rfl); clear kc ec bc))
        have KX := Aside0.mk (blk_put (blk_put KC.out 0 (.int .i64 (rd_T88 l of).f0) rfl) 1 (.int .i64 (rd_T88 l of).f1) rfl)
        have BX := Aside0.mk (below_set (j := 1) (v := (.int .i64 (rd_T88 l of).f1)) (below_set (j := 0) (v := (.int .i64 (rd_T88 l of).f0)) BC.out (Nat.le_of_eq EC.out.symm)) (Nat.le_of_eq EC.out.symm))
        have S1 := Aside0.mk (SA.out.up BX.out)
        clear kge0 kge1 kge2 kgo0 kgo1 kgo2 kgz0 kgz1 kgz2 kgl0 kgl1
        clear SA y0 y1 KC BC EC zc0 zc1 kc0 kc1 BX x0 xf
        generalize (wb.setCell ⟨gc, 0, none⟩ (.int .i64 (rd_T88 l of).f0)).setCell ⟨gc, 1, none⟩ (.int .i64 (rd_T88 l of).f1) = w1 at S1 KX ⊢
        have kge0 : w1.cell? ⟨ge, 0, none⟩ = some (.int .i64 1) := (blk_cell S1.out.D.he 0).trans rfl
        have kge1 : w1.cell? ⟨ge, 1, none⟩ = some (.int .i64 of) := (blk_cell S1.out.D.he 1).trans rfl
        have kge2 : w1.cell? ⟨ge, 2, none⟩ = some (.int .i64 dir) := (blk_cell S1.out.D.he 2).trans rfl
        have kgo0 : w1.cell? ⟨go, 0, none⟩ = some (.bool true) := (blk_cell S1.out.D.hs 0).trans rfl
        have kgo1 : w1.cell? ⟨go, 1, none⟩ = some (.slice (some ⟨gr, 0, none⟩) ss.length cr) := (blk_cell S1.out.D.hs 1).trans rfl
        have kgo2 : w1.cell? ⟨go, 2, none⟩ = some (.slice (some ⟨gb, 0, none⟩) dd.length cd) := (blk_cell S1.out.D.hs 2).trans rfl
        have kgz0 : w1.cell? ⟨gz, 0, none⟩ = some (.bool true) := (blk_cell S1.out.hz 0).trans rfl
        have kgz1 : w1.cell? ⟨gz, 1, none⟩ = some (.slice A1 ss.length c1) := (blk_cell S1.out.hz 1).trans rfl
        have kgz2 : w1.cell? ⟨gz, 2, none⟩ = some (.slice (some a2) dd.length c2) := (blk_cell S1.out.hz 2).trans rfl
        have kgl0 : w1.cell? ⟨gl, 0, none⟩ = some (.int .i64 n) := (blk_cell S1.out.D.hl 0).trans rfl
        have kgl1 : w1.cell? ⟨gl, 1, none⟩ = some (.slice (some ad) l.length c) := (blk_cell S1.out.D.hl 1).trans rfl
        have kc0 : w1.cell? ⟨gc, 0, none⟩ = some (.int .i64 (rd_T88 l of).f0) := (blk_cell KX.out 0).trans rfl
        have kc1 : w1.cell? ⟨gc, 1, none⟩ = some (.int .i64 (rd_T88 l of).f1) := (blk_cell KX.out 1).trans rfl
        have u0 := pw_cell_below S1.out.D.hB U0.out
        rcases Bool.eq_false_or_eq_true (rdOf false dd of) with hdo | hdo
        · rw [hdo] at u0
          have HC := Aside0.mk (show doCode l ss dd 1 of = 2 by unfold doCode; rw [if_pos (by decide), if_pos hdo])
          clear hdo
          go_wp2_with fail
          go_meet
          case rel => exact ⟨by rw [HC.out], ⟨by unfold midSecs2 doDead; rw [HC.out]; exact S1.out⟩⟩
        · rw [hdo] at u0
          have HC := Aside0.mk (show doCode l ss dd 1 of = 0 by unfold doCode; rw [if_pos (by decide), hdo]; rfl)
          clear hdo
          rcases hdir with rfl | rfl
          · skip
            go_upto_region 18 with (go_at_call 118; refine (out_any _ true go gr ss.length cr _ _ _ _ _ LR0.out S1.out.D.hs S1.out.D.H1).mono ?_; rintro e w2 ⟨rfl, hR, hg⟩; have S2 := Aside0.mk (S1.out.sec hR hg); clear hR hg)
            go_wp2_with (go_at_call 118; refine (in_any _ true go gr ss.length cr _ _ _ _ _ LR1.out S2.out.D.hs S2.out.D.H1).mono ?_; rintro e w3 ⟨rfl, hR, hg⟩; have S3 := Aside0.mk (S2.out.sec hR hg); clear hR hg)
            go_meet
            case rel => exact ⟨by rw [HC.out], ⟨by unfold midSecs2 doDead; rw [if_pos HC.out, if_pos HC.out]; exact S3.out⟩⟩
          · skip
            go_upto_region 18 with (go_at_call 118; refine (out_any _ true go gr ss.length cr _ _ _ _ _ LR1.out S1.out.D.hs S1.out.D.H1).mono ?_; rintro e w2 ⟨rfl, hR, hg⟩; have S2 := Aside0.mk (S1.out.sec hR hg); clear hR hg)
            go_wp2_with (go_at_call 118; refine (in_any _ true go gr ss.length cr _ _ _ _ _ LR0.out S2.out.D.hs S2.out.D.H1).mono ?_; rintro e w3 ⟨rfl, hR, hg⟩; have S3 := Aside0.mk (S2.out.sec hR hg); clear hR hg)
            go_meet
            case rel => exact ⟨by rw [HC.out], ⟨by unfold midSecs2 doDead; rw [if_pos HC.out, if_pos HC.out]; exact S3.out⟩⟩
      · skip
        have kge0 : wa.cell? ⟨ge, 0, none⟩ = some (.int .i64 2) := (blk_cell SA.out.D.he 0).trans rfl
        have kge1 : wa.cell? ⟨ge, 1, none⟩ = some (.int .i64 of) := (blk_cell SA.out.D.he 1).trans rfl
        have kge2 : wa.cell? ⟨ge, 2, none⟩ = some (.int .i64 dir) := (blk_cell SA.out.D.he 2).trans rfl
        have kgo0 : wa.cell? ⟨go, 0, none⟩ = some (.bool true) := (blk_cell SA.out.D.hs 0).trans rfl
        have kgo1 : wa.cell? ⟨go, 1, none⟩ = some (.slice (some ⟨gr, 0, none⟩) ss.length cr) := (blk_cell SA.out.D.hs 1).trans rfl
        have kgo2 : wa.cell? ⟨go, 2, none⟩ = some (.slice (some ⟨gb, 0, none⟩) dd.length cd) := (blk_cell SA.out.D.hs 2).trans rfl
        have kgz0 : wa.cell? ⟨gz, 0, none⟩ = some (.bool true) := (blk_cell SA.out.hz 0).trans rfl
        have kgz1 : wa.cell? ⟨gz, 1, none⟩ = some (.slice A1 ss.length c1) := (blk_cell SA.out.hz 1).trans rfl
        have kgz2 : wa.cell? ⟨gz, 2, none⟩ = some (.slice (some a2) dd.length c2) := (blk_cell SA.out.hz 2).trans rfl
        have kgl0 : wa.cell? ⟨gl, 0, none⟩ = some (.int .i64 n) := (blk_cell SA.out.D.hl 0).trans rfl
        have kgl1 : wa.cell? ⟨gl, 1, none⟩ = some (.slice (some ad) l.length c) := (blk_cell SA.out.D.hl 1).trans rfl
        have y0 := pw_cell_below SA.out.D.hB Y0.out
        have y1 := pw_cell_below SA.out.D.hB Y1.out
        go_upto_region 9 with (first | ((with_reducible refine gate_dst (N := 9) rfl ?_); refine box_event ?hg (N := 9) ?hd (cs := #[.int .i64 0, .int .i64 0]) (t := 88) ?hr ?_; (case hd => rfl); (case hg => rfl); (case hr => first | (go_simp; done) | (go_simp; rfl)); intro gc ec wb kc bc; have KC := Aside0.mk kc; have EC := Aside0.mk ec; have BC := Aside0.mk bc; have zc0 := blk_frozen kc 0; have zc1 := blk_frozen kc 1; have kc0 := (blk_cell kc 0).trans (show _ = some (Value.int .i64 0) from rfl); have kc1 := (blk_cell kc 1).trans (show _ = some (Value.int .i64 0) from rfl); clear kc ec bc))
        have KX := Aside0.mk (blk_put (blk_put KC.out 0 (.int .i64 (rd_T88 l of).f0) rfl) 1 (.int .i64 (rd_T88 l of).f1) rfl)
        have BX := Aside0.mk (below_set (j := 1) (v := (.int .i64 (rd_T88 l of).f1)) (below_set (j := 0) (v := (.int .i64 (rd_T88 l of).f0)) BC.out (Nat.le_of_eq EC.out.symm)) (Nat.le_of_eq EC.out.symm))
        have S1 := Aside0.mk (SA.out.up BX.out)
        clear kge0 kge1 kge2 kgo0 kgo1 kgo2 kgz0 kgz1 kgz2 kgl0 kgl1
        clear SA y0 y1 KC BC EC zc0 zc1 kc0 kc1 BX x0 xf
        generalize (wb.setCell ⟨gc, 0, none⟩ (.int .i64 (rd_T88 l of).f0)).setCell ⟨gc, 1, none⟩ (.int .i64 (rd_T88 l of).f1) = w1 at S1 KX ⊢
        have kge0 : w1.cell? ⟨ge, 0, none⟩ = some (.int .i64 2) := (blk_cell S1.out.D.he 0).trans rfl
        have kge1 : w1.cell? ⟨ge, 1, none⟩ = some (.int .i64 of) := (blk_cell S1.out.D.he 1).trans rfl
        have kge2 : w1.cell? ⟨ge, 2, none⟩ = some (.int .i64 dir) := (blk_cell S1.out.D.he 2).trans rfl
        have kgo0 : w1.cell? ⟨go, 0, none⟩ = some (.bool true) := (blk_cell S1.out.D.hs 0).trans rfl
        have kgo1 : w1.cell? ⟨go, 1, none⟩ = some (.slice (some ⟨gr, 0, none⟩) ss.length cr) := (blk_cell S1.out.D.hs 1).trans rfl
        have kgo2 : w1.cell? ⟨go, 2, none⟩ = some (.slice (some ⟨gb, 0, none⟩) dd.length cd) := (blk_cell S1.out.D.hs 2).trans rfl
        have kgz0 : w1.cell? ⟨gz, 0, none⟩ = some (.bool true) := (blk_cell S1.out.hz 0).trans rfl
        have kgz1 : w1.cell? ⟨gz, 1, none⟩ = some (.slice A1 ss.length c1) := (blk_cell S1.out.hz 1).trans rfl
        have kgz2 : w1.cell? ⟨gz, 2, none⟩ = some (.slice (some a2) dd.length c2) := (blk_cell S1.out.hz 2).trans rfl
        have kgl0 : w1.cell? ⟨gl, 0, none⟩ = some (.int .i64 n) := (blk_cell S1.out.D.hl 0).trans rfl
        have kgl1 : w1.cell? ⟨gl, 1, none⟩ = some (.slice (some ad) l.length c) := (blk_cell S1.out.D.hl 1).trans rfl
        have kc0 : w1.cell? ⟨gc, 0, none⟩ = some (.int .i64 (rd_T88 l of).f0) := (blk_cell KX.out 0).trans rfl
        have kc1 : w1.cell? ⟨gc, 1, none⟩ = some (.int .i64 (rd_T88 l of).f1) := (blk_cell KX.out 1).trans rfl
        have u0 := pw_cell_below S1.out.D.hB U0.out
        rcases Bool.eq_false_or_eq_true (rdOf false dd of) with hdo | hdo
        · rw [hdo] at u0
          have HC := Aside0.mk (show doCode l ss dd 2 of = 2 by unfold doCode; rw [if_pos (by decide), if_pos hdo])
          clear hdo
          go_wp2_with fail
          go_meet
          case rel => exact ⟨by rw [HC.out], ⟨by unfold midSecs2 doDead; rw [HC.out]; exact S1.out⟩⟩
        · rw [hdo] at u0
          have HC := Aside0.mk (show doCode l ss dd 2 of = 0 by unfold doCode; rw [if_pos (by decide), hdo]; rfl)
          clear hdo
          rcases hdir with rfl | rfl
          · skip
            go_wp2_with (go_at_call 118; refine (in_any _ true go gr ss.length cr _ _ _ _ _ LR1.out S1.out.D.hs S1.out.D.H1).mono ?_; rintro e w3 ⟨rfl, hR, hg⟩; have S3 := Aside0.mk (S1.out.sec hR hg); clear hR hg)
            go_meet
            case rel => exact ⟨by rw [HC.out], ⟨by unfold midSecs2 doDead; rw [if_pos HC.out, if_pos HC.out]; exact S3.out⟩⟩
          · skip
            go_wp2_with (go_at_call 118; refine (in_any _ true go gr ss.length cr _ _ _ _ _ LR0.out S1.out.D.hs S1.out.D.H1).mono ?_; rintro e w3 ⟨rfl, hR, hg⟩; have S3 := Aside0.mk (S1.out.sec hR hg); clear hR hg)
            go_meet
            case rel => exact ⟨by rw [HC.out], ⟨by unfold midSecs2 doDead; rw [if_pos HC.out, if_pos HC.out]; exact S3.out⟩⟩
    · skip
      have lr := lay_rd hl of ho0 ho1
      have ho2 := ho1
      rw [← hnd] at ho1
      obtain ⟨gb, cb, e, _, _, _⟩ := Kd.R_form SA.out.D.H2 (show 0 < dd.length by omega)
      cases e
      obtain ⟨x0, xf⟩ := bool_at SA.out.D.H2 of ho0 ho1
      obtain ⟨ad, e, y0, y1⟩ := at_T88 HR.out of ho0 ho2
      subst e
      obtain ⟨a2, e, -⟩ := HR2.out.2.2 (show 0 < dd.length by omega)
      subst e
      have u0 := Kd.foot_bool HR2.out of ho0 ho1
      have U0 := Aside0.mk u0
      have LR0 := Aside0.mk (show (rd_T88 l of).f0 < (ss.length : Int) by omega)
      have LR1 := Aside0.mk (show (rd_T88 l of).f1 < (ss.length : Int) by omega)
      clear lr hl hns hnd hln u0
      have Y0 := Aside0.mk y0
      have Y1 := Aside0.mk y1
      clear y0 y1
      have HC := Aside0.mk (show doCode l ss dd op of = 0 by unfold doCode; rw [if_neg (by omega), if_neg (by omega)])
      have HM := Aside0.mk (show midSecs2 l ss dd op of dir = midSecs l ss op of dir by unfold midSecs2; rw [if_pos HC.out])
      have HD := Aside0.mk (show doDead l ss dd op of = midDead dd op of by unfold doDead; rw [if_pos HC.out])
      rcases hop with rfl | rfl
      · skip
        have kge0 : wa.cell? ⟨ge, 0, none⟩ = some (.int .i64 3) := (blk_cell SA.out.D.he 0).trans rfl
        have kge1 : wa.cell? ⟨ge, 1, none⟩ = some (.int .i64 of) := (blk_cell SA.out.D.he 1).trans rfl
        have kge2 : wa.cell? ⟨ge, 2, none⟩ = some (.int .i64 dir) := (blk_cell SA.out.D.he 2).trans rfl
        have kgo0 : wa.cell? ⟨go, 0, none⟩ = some (.bool true) := (blk_cell SA.out.D.hs 0).trans rfl
        have kgo1 : wa.cell? ⟨go, 1, none⟩ = some (.slice (some ⟨gr, 0, none⟩) ss.length cr) := (blk_cell SA.out.D.hs 1).trans rfl
        have kgo2 : wa.cell? ⟨go, 2, none⟩ = some (.slice (some ⟨gb, 0, none⟩) dd.length cd) := (blk_cell SA.out.D.hs 2).trans rfl
        have kgz0 : wa.cell? ⟨gz, 0, none⟩ = some (.bool true) := (blk_cell SA.out.hz 0).trans rfl
        have kgz1 : wa.cell? ⟨gz, 1, none⟩ = some (.slice A1 ss.length c1) := (blk_cell SA.out.hz 1).trans rfl
        have kgz2 : wa.cell? ⟨gz, 2, none⟩ = some (.slice (some a2) dd.length c2) := (blk_cell SA.out.hz 2).trans rfl
        have kgl0 : wa.cell? ⟨gl, 0, none⟩ = some (.int .i64 n) := (blk_cell SA.out.D.hl 0).trans rfl
        have kgl1 : wa.cell? ⟨gl, 1, none⟩ = some (.slice (some ad) l.length c) := (blk_cell SA.out.D.hl 1).trans rfl
        go_upto_region 21 with fail
        have S1 := Aside0.mk (SA.out.dead of true)
        clear kge0 kge1 kge2 kgo0 kgo1 kgo2 kgz0 kgz1 kgz2 kgl0 kgl1
        clear SA x0 xf
        generalize wa.setCell ⟨gb, of.toNat, none⟩ (.bool true) = w1 at S1 ⊢
        have kge1 : w1.cell? ⟨ge, 1, none⟩ = some (.int .i64 of) := (blk_cell S1.out.D.he 1).trans rfl
        have kgl1 : w1.cell? ⟨gl, 1, none⟩ = some (.slice (some ad) l.length c) := (blk_cell S1.out.D.hl 1).trans rfl
        have y0 := pw_cell_below S1.out.D.hB Y0.out
        have y1 := pw_cell_below S1.out.D.hB Y1.out
        go_region_held3 (fun w' => w'.cell? ⟨gl, 1, none⟩ = some (.slice (some ad) l.length c) ∧ w'.cell? ⟨ge, 1, none⟩ = some (.int .i64 of) ∧ w'.cell? (ad.add (of.toNat * 2)) = some (.int .i64 (rd_T88 l of).f0) ∧ w'.cell? ⟨(ad.add (of.toNat * 2)).block, (ad.add (of.toNat * 2)).off + 1, none⟩ = some (.int .i64 (rd_T88 l of).f1))
          (first | go_keep | (go_split_ands; (repeat' apply And.intro) <;> (refine pw_cell_below (below_alloc (Below.refl _ _) _) ?_; assumption)))
          (fail)
        have S2 := Aside0.mk (S1.out.up (below_drew1 (below_alloc (Below.refl w1.heap.size w1) (.cells #[.int .i64 (rd_T88 l of).f0, .int .i64 (rd_T88 l of).f1] 3))))
        have KS : Aside0 (((w1.alloc (.cells #[.int .i64 (rd_T88 l of).f0, .int .i64 (rd_T88 l of).f1] 3)).drew).heap[w1.heap.size]? = some (.cells #[.int .i64 (rd_T88 l of).f0, .int .i64 (rd_T88 l of).f1] 3 (0, 0))) := ⟨blk_drew (heap_alloc_new w1 _)⟩
        clear S1 kge1 kgl1 y0 y1
        generalize (w1.alloc (.cells #[.int .i64 (rd_T88 l of).f0, .int .i64 (rd_T88 l of).f1] 3)).drew = w2 at S2 KS ⊢
        generalize w1.heap.size = gq at KS ⊢
        go_wp2_with fail
        go_loopg [86] 2 (fun kq v w' => ∃ i : Int, v = .int .i64 i ∧ Aside0 ((i = 0 ∧ kq = 2) ∨ (i = 1 ∧ kq = 1) ∨ (i = 2 ∧ kq = 0)) ∧ Aside0 (w'.heap[gq]? = some (.cells #[.int .i64 (rd_T88 l of).f0, .int .i64 (rd_T88 l of).f1] 3 (0, 0))) ∧ Aside0 (SpSt w w' gl gz go ge gd [.int .i64 n, .slice (some ad) l.length c] [.bool true, .slice A1 ss.length c1, .slice (some a2) dd.length c2] [.bool true, .slice (some ⟨gr, 0, none⟩) ss.length cr, .slice (some ⟨gb, 0, none⟩) dd.length cd] [.int .i64 3, .int .i64 of, .int .i64 dir] [.int .i64 0, .bool false, .slice none 0 0, .slice none 0 0] (.slice (some ⟨gr, 0, none⟩) ss.length cr) (.slice (some ⟨gb, 0, none⟩) dd.length cd) (loseTo ss (rd_T88 l of).f0 (rd_T88 l of).f1 i.toNat) (dd.set of.toNat true)))
        case atStart => exact ⟨0, rfl, ⟨.inl ⟨rfl, rfl⟩⟩, KS, S2⟩
        case round =>
          clear S2 KS
          obtain ⟨i, rfl, HI, KS, SL⟩ := hrel
          rcases HI.out with ⟨rfl, rfl⟩ | ⟨rfl, rfl⟩ | ⟨rfl, rfl⟩
          · have kk : wr.cell? ⟨gq, 0, none⟩ = some (.int .i64 (rd_T88 l of).f0) := (blk_cell KS.out 0).trans rfl
            have kgo1 : wr.cell? ⟨go, 1, none⟩ = some (.slice (some ⟨gr, 0, none⟩) ss.length cr) := (blk_cell SL.out.D.hs 1).trans rfl
            by_cases h0 : (rd_T88 l of).f0 < 0
            · have h0b : decide ((rd_T88 l of).f0 ≥ 0) = false := decide_eq_false (by omega)
              have H0 := Aside0.mk h0
              clear h0
              go_wp2_with fail
              go_roundg 1
              case measure => omega
              case rel => exact ⟨1, rfl, ⟨.inr (.inl ⟨rfl, rfl⟩)⟩, KS, ⟨by rw [show (1 : Int).toNat = 1 from rfl, show loseTo ss _ _ 1 = loseTo ss _ _ 0 from if_pos H0.out]; exact SL.out⟩⟩
            · have h0b : decide ((rd_T88 l of).f0 ≥ 0) = true := decide_eq_true (by omega)
              have h1 : 0 ≤ (rd_T88 l of).f0 := by omega
              have h2 := LR0.out
              have H0 := Aside0.mk h0
              have H1 := Aside0.mk h1
              clear h0
              obtain ⟨z0, z1, z2, z3, z4, zf0, zf1, zf2, zf3, zf4⟩ := sec_at SL.out.D.H1 (rd_T88 l of).f0 h1 h2
              have hp1 := eq_true h1
              have hp2 := eq_true h2
              clear h1 h2 z0 z1 z3 z4 zf0 zf1 zf3 zf4
              go_wp2_with fail
              obtain ⟨hR, hg⟩ := (SecSt.start SL.out.D.H1 H1.out LR0.out).put2 H1.out LR0.out (u := true) rfl
              have S3 := Aside0.mk (SL.out.sec hR hg)
              have K3 := Aside0.mk (blk_grown KS.out hg (Kd.R_ne SL.out.D.H1 KS.out (by decide)))
              clear hR hg
              go_roundg 1
              case measure => omega
              case rel => exact ⟨1, rfl, ⟨.inr (.inl ⟨rfl, rfl⟩)⟩, K3, ⟨by rw [show (1 : Int).toNat = 1 from rfl, show loseTo ss (rd_T88 l of).f0 (rd_T88 l of).f1 1 = _ from if_neg (show ¬ (rd_T88 l of).f0 < 0 by have := H1.out; omega)]; exact S3.out⟩⟩
          · have kk : wr.cell? ⟨gq, 1, none⟩ = some (.int .i64 (rd_T88 l of).f1) := (blk_cell KS.out 1).trans rfl
            have kgo1 : wr.cell? ⟨go, 1, none⟩ = some (.slice (some ⟨gr, 0, none⟩) ss.length cr) := (blk_cell SL.out.D.hs 1).trans rfl
            by_cases h0 : (rd_T88 l of).f1 < 0
            · have h0b : decide ((rd_T88 l of).f1 ≥ 0) = false := decide_eq_false (by omega)
              have H0 := Aside0.mk h0
              clear h0
              go_wp2_with fail
              go_roundg 0
              case measure => omega
              case rel => exact ⟨2, rfl, ⟨.inr (.inr ⟨rfl, rfl⟩)⟩, KS, ⟨by rw [show (2 : Int).toNat = 2 from rfl, show loseTo ss (rd_T88 l of).f0 (rd_T88 l of).f1 2 = loseTo ss (rd_T88 l of).f0 (rd_T88 l of).f1 1 from if_pos H0.out]; exact SL.out⟩⟩
            · have h0b : decide ((rd_T88 l of).f1 ≥ 0) = true := decide_eq_true (by omega)
              have h1 : 0 ≤ (rd_T88 l of).f1 := by omega
              have h2 := LR1.out
              have H0 := Aside0.mk h0
              have H1 := Aside0.mk h1
              clear h0
              obtain ⟨z0, z1, z2, z3, z4, zf0, zf1, zf2, zf3, zf4⟩ := sec_at SL.out.D.H1 (rd_T88 l of).f1 h1 h2
              have hp1 := eq_true h1
              have hp2 := eq_true h2
              clear h1 h2 z0 z1 z3 z4 zf0 zf1 zf3 zf4
              go_wp2_with fail
              obtain ⟨hR, hg⟩ := (SecSt.start SL.out.D.H1 H1.out LR1.out).put2 H1.out LR1.out (u := true) rfl
              have S3 := Aside0.mk (SL.out.sec hR hg)
              have K3 := Aside0.mk (blk_grown KS.out hg (Kd.R_ne SL.out.D.H1 KS.out (by decide)))
              clear hR hg
              go_roundg 0
              case measure => omega
              case rel => exact ⟨2, rfl, ⟨.inr (.inr ⟨rfl, rfl⟩)⟩, K3, ⟨by rw [show (2 : Int).toNat = 2 from rfl, show loseTo ss (rd_T88 l of).f0 (rd_T88 l of).f1 2 = _ from if_neg (show ¬ (rd_T88 l of).f1 < 0 by have := H1.out; omega)]; exact S3.out⟩⟩
          · go_wp2_with fail
            go_meet
            case rel => exact ⟨by rw [HC.out], ⟨by rw [HM.out, HD.out]; exact SL.out⟩⟩
      · skip
        have kge0 : wa.cell? ⟨ge, 0, none⟩ = some (.int .i64 4) := (blk_cell SA.out.D.he 0).trans rfl
        have kge1 : wa.cell? ⟨ge, 1, none⟩ = some (.int .i64 of) := (blk_cell SA.out.D.he 1).trans rfl
        have kge2 : wa.cell? ⟨ge, 2, none⟩ = some (.int .i64 dir) := (blk_cell SA.out.D.he 2).trans rfl
        have kgo0 : wa.cell? ⟨go, 0, none⟩ = some (.bool true) := (blk_cell SA.out.D.hs 0).trans rfl
        have kgo1 : wa.cell? ⟨go, 1, none⟩ = some (.slice (some ⟨gr, 0, none⟩) ss.length cr) := (blk_cell SA.out.D.hs 1).trans rfl
        have kgo2 : wa.cell? ⟨go, 2, none⟩ = some (.slice (some ⟨gb, 0, none⟩) dd.length cd) := (blk_cell SA.out.D.hs 2).trans rfl
        have kgz0 : wa.cell? ⟨gz, 0, none⟩ = some (.bool true) := (blk_cell SA.out.hz 0).trans rfl
        have kgz1 : wa.cell? ⟨gz, 1, none⟩ = some (.slice A1 ss.length c1) := (blk_cell SA.out.hz 1).trans rfl
        have kgz2 : wa.cell? ⟨gz, 2, none⟩ = some (.slice (some a2) dd.length c2) := (blk_cell SA.out.hz 2).trans rfl
        have kgl0 : wa.cell? ⟨gl, 0, none⟩ = some (.int .i64 n) := (blk_cell SA.out.D.hl 0).trans rfl
        have kgl1 : wa.cell? ⟨gl, 1, none⟩ = some (.slice (some ad) l.length c) := (blk_cell SA.out.D.hl 1).trans rfl
        go_wp2_with fail
        go_meet
        case rel => exact ⟨by rw [HC.out], ⟨by rw [HM.out, HD.out]; exact SA.out.dead of false⟩⟩
    · rw [← hns] at ho1
      have HLL := Aside0.mk (show l.length ≤ 1048576 by omega)
      have HND := Aside0.mk hnd
      have HO0 := Aside0.mk ho0
      have HO1 := Aside0.mk ho1
      have HLY := Aside0.mk hl
      have HON := Aside0.mk (show of < n by omega)
      obtain ⟨a1, e, y0, y1, y2, y3, y4⟩ := at_T50 HR1.out of ho0 ho1
      subst e
      have Y4 := Aside0.mk y4
      clear y0 y1 y2 y3 y4 hl hns hnd hln
      have kge0 : wa.cell? ⟨ge, 0, none⟩ = some (.int .i64 5) := (blk_cell SA.out.D.he 0).trans rfl
      have kge1 : wa.cell? ⟨ge, 1, none⟩ = some (.int .i64 of) := (blk_cell SA.out.D.he 1).trans rfl
      have kge2 : wa.cell? ⟨ge, 2, none⟩ = some (.int .i64 dir) := (blk_cell SA.out.D.he 2).trans rfl
      have kgo0 : wa.cell? ⟨go, 0, none⟩ = some (.bool true) := (blk_cell SA.out.D.hs 0).trans rfl
      have kgo1 : wa.cell? ⟨go, 1, none⟩ = some (.slice (some ⟨gr, 0, none⟩) ss.length cr) := (blk_cell SA.out.D.hs 1).trans rfl
      have kgo2 : wa.cell? ⟨go, 2, none⟩ = some (.slice Ad dd.length cd) := (blk_cell SA.out.D.hs 2).trans rfl
      have kgz0 : wa.cell? ⟨gz, 0, none⟩ = some (.bool true) := (blk_cell SA.out.hz 0).trans rfl
      have kgz1 : wa.cell? ⟨gz, 1, none⟩ = some (.slice (some a1) ss.length c1) := (blk_cell SA.out.hz 1).trans rfl
      have kgz2 : wa.cell? ⟨gz, 2, none⟩ = some (.slice A2 dd.length c2) := (blk_cell SA.out.hz 2).trans rfl
      have kgl0 : wa.cell? ⟨gl, 0, none⟩ = some (.int .i64 n) := (blk_cell SA.out.D.hl 0).trans rfl
      have kgl1 : wa.cell? ⟨gl, 1, none⟩ = some (.slice A l.length c) := (blk_cell SA.out.D.hl 1).trans rfl
      rcases Bool.eq_false_or_eq_true (deadAt l dd of) with hdo | hdo
      · have HDO := Aside0.mk hdo
        have HC := Aside0.mk (show doCode l ss dd 5 of = 3 by unfold doCode; rw [if_neg (by decide), if_pos rfl, if_pos hdo])
        clear hdo
        go_wp2_with (go_at_call 114; refine (sdead_at of HDO.out (Kd.C_below HR.out SA.out.D.hB) hc (Kd.C_below HR2.out SA.out.D.hB) hc2 HLY.out HO0.out HON.out HND.out).mono ?_; rintro e w1 ⟨rfl, hb⟩; have S1 := Aside0.mk (SA.out.up hb); clear hb)
        go_meet
        case rel => exact ⟨by rw [HC.out], ⟨by unfold midSecs2 doDead; rw [HC.out]; exact S1.out⟩⟩
      · have HDO := Aside0.mk hdo
        clear hdo
        go_upto_region 32 with (go_at_call 114; refine (sdead_at of HDO.out (Kd.C_below HR.out SA.out.D.hB) hc (Kd.C_below HR2.out SA.out.D.hB) hc2 HLY.out HO0.out HON.out HND.out).mono ?_; rintro e w1 ⟨rfl, hb⟩; have S1 := Aside0.mk (SA.out.up hb); clear hb)
        clear kge0 kge1 kge2 kgo0 kgo1 kgo2 kgz0 kgz1 kgz2 kgl0 kgl1
        clear SA
        have kge0 : w1.cell? ⟨ge, 0, none⟩ = some (.int .i64 5) := (blk_cell S1.out.D.he 0).trans rfl
        have kge1 : w1.cell? ⟨ge, 1, none⟩ = some (.int .i64 of) := (blk_cell S1.out.D.he 1).trans rfl
        have kge2 : w1.cell? ⟨ge, 2, none⟩ = some (.int .i64 dir) := (blk_cell S1.out.D.he 2).trans rfl
        have kgo0 : w1.cell? ⟨go, 0, none⟩ = some (.bool true) := (blk_cell S1.out.D.hs 0).trans rfl
        have kgo1 : w1.cell? ⟨go, 1, none⟩ = some (.slice (some ⟨gr, 0, none⟩) ss.length cr) := (blk_cell S1.out.D.hs 1).trans rfl
        have kgo2 : w1.cell? ⟨go, 2, none⟩ = some (.slice Ad dd.length cd) := (blk_cell S1.out.D.hs 2).trans rfl
        have kgz0 : w1.cell? ⟨gz, 0, none⟩ = some (.bool true) := (blk_cell S1.out.hz 0).trans rfl
        have kgz1 : w1.cell? ⟨gz, 1, none⟩ = some (.slice (some a1) ss.length c1) := (blk_cell S1.out.hz 1).trans rfl
        have kgz2 : w1.cell? ⟨gz, 2, none⟩ = some (.slice A2 dd.length c2) := (blk_cell S1.out.hz 2).trans rfl
        have kgl0 : w1.cell? ⟨gl, 0, none⟩ = some (.int .i64 n) := (blk_cell S1.out.D.hl 0).trans rfl
        have kgl1 : w1.cell? ⟨gl, 1, none⟩ = some (.slice A l.length c) := (blk_cell S1.out.D.hl 1).trans rfl
        have y4 := pw_cell_below S1.out.D.hB Y4.out
        have ho0 := HO0.out
        have ho1 := HO1.out
        obtain ⟨z0, z1, z2, z3, z4, zf0, zf1, zf2, zf3, zf4⟩ := sec_at S1.out.D.H1 of ho0 ho1
        have hr4 : (rd_T50 ss of).f4 ≤ 1 := by have := secOk_range (HSE.out of.toNat (by omega)); rw [show ((of.toNat : Nat) : Int) = of by omega] at this; omega
        by_cases hla : (rd_T50 ss of).f4 = 1
        · have hla1 : decide ((rd_T50 ss of).f4 > 0) = true := decide_eq_true (by omega)
          have HC := Aside0.mk (show doCode l ss dd 5 of = 4 by unfold doCode; rw [if_neg (by decide), if_pos rfl, HDO.out, if_neg (by decide), if_pos hla])
          clear hla hr4
          go_wp2_with fail
          go_meet
          case rel => exact ⟨by rw [HC.out], ⟨by unfold midSecs2 doDead; rw [HC.out]; exact S1.out⟩⟩
        · have hla1 : decide ((rd_T50 ss of).f4 > 0) = false := decide_eq_false (by omega)
          have HC := Aside0.mk (show doCode l ss dd 5 of = 0 by unfold doCode; rw [if_neg (by decide), if_pos rfl, HDO.out, if_neg (by decide), if_neg hla])
          clear hla hr4
          go_wp2_with fail
          go_meet
          case rel =>
            obtain ⟨hR, hg⟩ := ((((SecSt.start S1.out.D.H1 HO0.out HO1.out).put0 HO0.out HO1.out (u := 0) rfl).put1 HO0.out HO1.out (u := 0) rfl).put2 HO0.out HO1.out (u := false) rfl |>.put3 HO0.out HO1.out (u := true) rfl).put4 HO0.out HO1.out (u := 0) rfl
            exact ⟨by rw [HC.out], ⟨by unfold midSecs2 doDead; rw [if_pos HC.out, if_pos HC.out]; exact S1.out.sec hR hg⟩⟩
  case rest =>
    obtain ⟨rfl, SM⟩ := hcut
    have HLM := Aside0.mk (midSecs2_length l ss dd op of dir)
    have HLD := Aside0.mk (doDead_length l ss dd op of)
    have HDS := Aside0.mk (retold_mid (op := op) (of := of) (dir := dir) HSE.out)
    generalize hq1 : doCode l ss dd op of = code
    have HQ := Aside0.mk hq1
    clear hq1
    clear SA
    generalize midSecs2 l ss dd op of dir = ms at SM HLM HDS
    generalize hmd : doDead l ss dd op of = md at SM HLD HDS
    have HMD := Aside0.mk hmd
    clear hmd
    have kgo1 : wc.cell? ⟨go, 1, none⟩ = some (.slice (some ⟨gr, 0, none⟩) ss.length cr) := (blk_cell SM.out.D.hs 1).trans rfl
    go_wp2_with fail
    go_loopg [130] ss.length (fun kq v w' => ∃ j : Nat, v = .int .i64 j ∧ Aside0 (j + kq = ss.length) ∧ Aside0 (SpSt w w' gl gz go ge gd [.int .i64 n, .slice A l.length c] [.bool true, .slice A1 ss.length c1, .slice A2 dd.length c2] [.bool true, .slice (some ⟨gr, 0, none⟩) ss.length cr, .slice Ad dd.length cd] [.int .i64 op, .int .i64 of, .int .i64 dir] [.int .i64 0, .bool false, .slice none 0 0, .slice none 0 0] (.slice (some ⟨gr, 0, none⟩) ss.length cr) (.slice Ad dd.length cd) (retoldTo l md ms j) md))
    case atStart => exact ⟨0, rfl, ⟨by omega⟩, ⟨by rw [retoldTo_zero]; exact SM.out⟩⟩
    case round =>
      obtain ⟨j, rfl, HJ, SL⟩ := hrel
      clear SM kgo1
      by_cases hlt : j < ss.length
      · cases gk with
        | zero => exact absurd HJ.out (by omega)
        | succ gk =>
          have hlt' : decide ((j : Int) < (ss.length : Int)) = true := decide_eq_true (by omega)
          have q0 : (0 : Int) ≤ (j : Int) := by omega
          have q1 : (j : Int) < (ss.length : Int) := by omega
          have q2 : ss.length ≤ 60 := by have := HN.out; omega
          go_upto_block 4 with fail
          go_cut [14] from 132 to 147 (fun v14 wx => Aside0 (SpSt w wx gl gz go ge gd [.int .i64 n, .slice A l.length c] [.bool true, .slice A1 ss.length c1, .slice A2 dd.length c2] [.bool true, .slice (some ⟨gr, 0, none⟩) ss.length cr, .slice Ad dd.length cd] [.int .i64 op, .int .i64 of, .int .i64 dir] [.int .i64 0, .bool false, .slice none 0 0, .slice none 0 0] (.slice (some ⟨gr, 0, none⟩) ss.length cr) (.slice Ad dd.length cd) (retoldTo l md ms (j + 1)) md))
          case first =>
            have HML := Aside0.mk (show md.length = l.length by rw [HLD.out]; exact HN.out.2.2.1)
            have n1 : gr ≠ go := fun e => Kd.R_ne SL.out.D.H1 SL.out.D.hs (by decide) (by rw [e]; rfl)
            have n2 : gr ≠ gl := fun e => Kd.R_ne SL.out.D.H1 SL.out.D.hl (by decide) (by rw [e]; rfl)
            have SD := Aside0.mk (SL.out.up (below_drew1 (Below.refl wr.heap.size wr)))
            have kgl0 : wr.cell? ⟨gl, 0, none⟩ = some (.int .i64 n) := (blk_cell SL.out.D.hl 0).trans rfl
            have kgl1 : wr.cell? ⟨gl, 1, none⟩ = some (.slice A l.length c) := (blk_cell SL.out.D.hl 1).trans rfl
            have kgo1 : wr.cell? ⟨go, 1, none⟩ = some (.slice (some ⟨gr, 0, none⟩) ss.length cr) := (blk_cell SL.out.D.hs 1).trans rfl
            have kgo2 : wr.cell? ⟨go, 2, none⟩ = some (.slice Ad dd.length cd) := (blk_cell SL.out.D.hs 2).trans rfl
            obtain ⟨z0, z1, z2, z3, z4, -, -, -, -, -⟩ := sec_at SL.out.D.H1 (j : Int) q0 q1
            rw [Int.toNat_natCast] at z0 z1 z2 z3 z4
            have HLN := Aside0.mk (show (retoldTo l md ms j).length = ss.length by rw [retoldTo_length, HLM.out])
            have HLM2 := Aside0.mk (show dd.length = md.length from HLD.out.symm)
            have HJN := Aside0.mk (show (j : Int) < n by have := HN.out; omega)
            have HRS := Aside0.mk (retold_step l md ms j (by rw [HLM.out]; exact hlt))
            generalize hx : rd_T50 (retoldTo l md ms j) (j : Int) = x at z0 z1 z2 z3 z4 HRS
            have HX := Aside0.mk hx
            clear hx
            go_upto_region 38 with fail
            have dkgl0 : wr.drew.cell? ⟨gl, 0, none⟩ = some (.int .i64 n) := kgl0
            have dkgl1 : wr.drew.cell? ⟨gl, 1, none⟩ = some (.slice A l.length c) := kgl1
            have dkgo1 : wr.drew.cell? ⟨go, 1, none⟩ = some (.slice (some ⟨gr, 0, none⟩) ss.length cr) := kgo1
            have dkgo2 : wr.drew.cell? ⟨go, 2, none⟩ = some (.slice Ad dd.length cd) := kgo2
            have dz0 : wr.drew.cell? ⟨gr, j * 5, none⟩ = some (.int .i64 x.f0) := z0
            have dz1 : wr.drew.cell? ⟨gr, j * 5 + 1, none⟩ = some (.int .i64 x.f1) := z1
            have dz2 : wr.drew.cell? ⟨gr, j * 5 + 2, none⟩ = some (.bool x.f2) := z2
            have dz3 : wr.drew.cell? ⟨gr, j * 5 + 3, none⟩ = some (.bool x.f3) := z3
            have dz4 : wr.drew.cell? ⟨gr, j * 5 + 4, none⟩ = some (.int .i64 x.f4) := z4
            refine start_ (n := 16) (S := fun w' => w'.cell? ⟨gl, 0, none⟩ = some (.int .i64 n) ∧ w'.cell? ⟨gl, 1, none⟩ = some (.slice A l.length c) ∧ w'.cell? ⟨go, 1, none⟩ = some (.slice (some ⟨gr, 0, none⟩) ss.length cr) ∧ w'.cell? ⟨go, 2, none⟩ = some (.slice Ad dd.length cd) ∧ w'.cell? ⟨gr, j * 5, none⟩ = some (.int .i64 x.f0) ∧ w'.cell? ⟨gr, j * 5 + 1, none⟩ = some (.int .i64 x.f1) ∧ w'.cell? ⟨gr, j * 5 + 2, none⟩ = some (.bool x.f2) ∧ w'.cell? ⟨gr, j * 5 + 3, none⟩ = some (.bool x.f3) ∧ w'.cell? ⟨gr, j * 5 + 4, none⟩ = some (.int .i64 x.f4)) (ds := [15]) #[false, false, false, false, false, false, false, false, false, false, false, false, false, false, false, false] (by kernel_rfl) rfl rfl ⟨dkgl0, dkgl1, dkgo1, dkgo2, dz0, dz1, dz2, dz3, dz4⟩ (fun hHeld => ?_); refine with_tabW sd_tab38 sd_bits38 (fun HT_ HW_ => ?_)
            refine pure_ (i := 0) (N := some 133) (v := ?_) (a' := ?_) #[true, false, false, false, false, false, false, false, false, false, false, false, false, false, false, false] rfl rfl (any_of HT_.out (by kernel_rfl)) (fun _ _ _ h => h) (Or.inl ⟨by rfl, ?_⟩) ?_ ?_
            rotate_left
            · intro w'
              go_simp
              with_reducible rfl
            rotate_left
            · simp only [Act.put, List.setIfInBounds_toArray, List.set_cons_zero, List.set_cons_succ, i64_w, i32_w]
              rfl
            refine take_ (i := 1) (N := some 134) (v := ?_) (a' := ?_) #[true, true, false, false, false, false, false, false, false, false, false, false, false, false, false, false] rfl rfl (take_ofW HT_.out HW_.out (by kernel_rfl)) (fun _ _ _ h => h) (Or.inl ⟨by rfl, ?_⟩) hHeld ?_ ?_
            rotate_left
            · rintro w' ⟨s0, s1, s2, s3, s4, s5, s6, s7, s8⟩
              go_simp
              with_reducible rfl
            rotate_left
            · simp only [Act.put, List.setIfInBounds_toArray, List.set_cons_zero, List.set_cons_succ, i64_w, i32_w]
              rfl
            refine pure_ (i := 2) (N := some 135) (v := ?_) (a' := ?_) #[true, true, true, false, false, false, false, false, false, false, false, false, false, false, false, false] rfl rfl (any_of HT_.out (by kernel_rfl)) (fun _ _ _ h => h) (Or.inl ⟨by rfl, ?_⟩) ?_ ?_
            rotate_left
            · intro w'
              go_simp
              with_reducible rfl
            rotate_left
            · simp only [Act.put, List.setIfInBounds_toArray, List.set_cons_zero, List.set_cons_succ, i64_w, i32_w]
              rfl
            refine take_ (i := 3) (N := some 136) (v := ?_) (a' := ?_) #[true, true, true, true, false, false, false, false, false, false, false, false, false, false, false, false] rfl rfl (take_ofW HT_.out HW_.out (by kernel_rfl)) (fun _ _ _ h => h) (Or.inl ⟨by rfl, ?_⟩) hHeld ?_ ?_
            rotate_left
            · rintro w' ⟨s0, s1, s2, s3, s4, s5, s6, s7, s8⟩
              go_simp
              with_reducible rfl
            rotate_left
            · simp only [Act.put, List.setIfInBounds_toArray, List.set_cons_zero, List.set_cons_succ, i64_w, i32_w]
              rfl
            refine pure_ (i := 4) (N := some 137) (v := ?_) (a' := ?_) #[true, true, true, true, true, false, false, false, false, false, false, false, false, false, false, false] rfl rfl (any_of HT_.out (by kernel_rfl)) (fun _ _ _ h => h) (Or.inl ⟨by rfl, ?_⟩) ?_ ?_
            rotate_left
            · intro w'
              go_simp
              with_reducible rfl
            rotate_left
            · simp only [Act.put, List.setIfInBounds_toArray, List.set_cons_zero, List.set_cons_succ, i64_w, i32_w]
              rfl
            refine take_ (i := 5) (N := some 138) (v := ?_) (a' := ?_) #[true, true, true, true, true, true, false, false, false, false, false, false, false, false, false, false] rfl rfl (take_ofW HT_.out HW_.out (by kernel_rfl)) (fun _ _ _ h => h) (Or.inl ⟨by rfl, ?_⟩) hHeld ?_ ?_
            rotate_left
            · rintro w' ⟨s0, s1, s2, s3, s4, s5, s6, s7, s8⟩
              go_simp
              with_reducible rfl
            rotate_left
            · simp only [Act.put, List.setIfInBounds_toArray, List.set_cons_zero, List.set_cons_succ, i64_w, i32_w]
              rfl
            refine pure_ (i := 6) (N := some 139) (v := ?_) (a' := ?_) #[true, true, true, true, true, true, true, false, false, false, false, false, false, false, false, false] rfl rfl (any_of HT_.out (by kernel_rfl)) (fun _ _ _ h => h) (Or.inl ⟨by rfl, ?_⟩) ?_ ?_
            rotate_left
            · intro w'
              go_simp
              with_reducible rfl
            rotate_left
            · simp only [Act.put, List.setIfInBounds_toArray, List.set_cons_zero, List.set_cons_succ, i64_w, i32_w]
              rfl
            refine pure_ (i := 7) (N := some 140) (v := ?_) (a' := ?_) #[true, true, true, true, true, true, true, true, false, false, false, false, false, false, false, false] rfl rfl (any_of HT_.out (by kernel_rfl)) (fun _ _ _ h => h) (Or.inl ⟨by rfl, ?_⟩) ?_ ?_
            rotate_left
            · intro w'
              go_simp
              with_reducible rfl
            rotate_left
            · simp only [Act.put, List.setIfInBounds_toArray, List.set_cons_zero, List.set_cons_succ, i64_w, i32_w]
              rfl
            refine take_ (i := 8) (N := some 141) (v := ?_) (a' := ?_) #[true, true, true, true, true, true, true, true, true, false, false, false, false, false, false, false] rfl rfl (take_ofW HT_.out HW_.out (by kernel_rfl)) (fun _ _ _ h => h) (Or.inl ⟨by rfl, ?_⟩) hHeld ?_ ?_
            rotate_left
            · rintro w' ⟨s0, s1, s2, s3, s4, s5, s6, s7, s8⟩
              go_simp
              with_reducible rfl
            rotate_left
            · simp only [Act.put, List.setIfInBounds_toArray, List.set_cons_zero, List.set_cons_succ, i64_w, i32_w]
              rfl
            refine pure_ (i := 9) (N := some 142) (v := ?_) (a' := ?_) #[true, true, true, true, true, true, true, true, true, true, false, false, false, false, false, false] rfl rfl (any_of HT_.out (by kernel_rfl)) (fun _ _ _ h => h) (Or.inl ⟨by rfl, ?_⟩) ?_ ?_
            rotate_left
            · intro w'
              go_simp
              with_reducible rfl
            rotate_left
            · simp only [Act.put, List.setIfInBounds_toArray, List.set_cons_zero, List.set_cons_succ, i64_w, i32_w]
              rfl
            refine pure_ (i := 10) (N := some 143) (v := ?_) (a' := ?_) #[true, true, true, true, true, true, true, true, true, true, true, false, false, false, false, false] rfl rfl (any_of HT_.out (by kernel_rfl)) (fun _ _ _ h => h) (Or.inl ⟨by rfl, ?_⟩) ?_ ?_
            rotate_left
            · intro w'
              go_simp
              with_reducible rfl
            rotate_left
            · simp only [Act.put, List.setIfInBounds_toArray, List.set_cons_zero, List.set_cons_succ, i64_w, i32_w]
              rfl
            refine take_ (i := 11) (N := some 144) (v := ?_) (a' := ?_) #[true, true, true, true, true, true, true, true, true, true, true, true, false, false, false, false] rfl rfl (take_ofW HT_.out HW_.out (by kernel_rfl)) (fun _ _ _ h => h) (Or.inl ⟨by rfl, ?_⟩) hHeld ?_ ?_
            rotate_left
            · rintro w' ⟨s0, s1, s2, s3, s4, s5, s6, s7, s8⟩
              go_simp
              with_reducible rfl
            rotate_left
            · simp only [Act.put, List.setIfInBounds_toArray, List.set_cons_zero, List.set_cons_succ, i64_w, i32_w]
              rfl
            refine one_ (i := 12) (N := some 145) #[true, true, true, true, true, true, true, true, true, true, true, true, true, false, false, false] rfl rfl (one_of HT_.out (by kernel_rfl)) (by decide) (fun K hK => ?_)
            refine goes_ Try.func113 (by kernel_rfl) rfl #[.agg #[.int .i64 n, .slice A l.length c], .slice Ad dd.length cd, .int .i64 (j : Int), .agg #[.int .i64 x.f0, .int .i64 x.f1, .bool x.f2, .bool x.f3, .int .i64 x.f4]] (by rfl) rfl rfl (by (try simp only [List.map_toArray, List.map_cons, List.map_nil]); first | done | rfl | (simp only [List.length_drop, List.length_take]; rfl)) ?_
            with_reducible refine (stold_of (j : Int) x (Kd.C_below HR.out SD.out.D.hB) hc SD.out.D.H2 HLM2.out HN.out.1 q0 HJN.out HML.out).mono ?_; rintro e w' ⟨rfl, hb⟩
            refine ⟨_, rfl, ?_⟩
            have S2 := Aside0.mk (SD.out.up hb)
            obtain ⟨zz, -, -, -, -, zf, -, -, -, -⟩ := sec_at S2.out.D.H1 (j : Int) q0 q1
            rw [Int.toNat_natCast] at zz zf
            refine hK.out _ _ ⟨pw_cell_below hb hHeld.1, pw_cell_below hb hHeld.2.1, pw_cell_below hb hHeld.2.2.1, pw_cell_below hb hHeld.2.2.2.1, pw_cell_below hb hHeld.2.2.2.2.1, pw_cell_below hb hHeld.2.2.2.2.2.1, pw_cell_below hb hHeld.2.2.2.2.2.2.1, pw_cell_below hb hHeld.2.2.2.2.2.2.2.1, pw_cell_below hb hHeld.2.2.2.2.2.2.2.2⟩ (fun hHeld => ?_)
            clear hK K
            refine norm_ (a' := ?_) ?_ ?_
            rotate_left
            · show Act.put _ (some 145) _ = _
              simp only [Act.put, List.setIfInBounds_toArray, List.set_cons_zero, List.set_cons_succ, i64_w, i32_w]
              rfl
            refine pure_ (i := 13) (N := some 146) (v := ?_) (a' := ?_) #[true, true, true, true, true, true, true, true, true, true, true, true, true, true, false, false] rfl rfl (any_of HT_.out (by kernel_rfl)) (fun _ _ _ h => h) (Or.inl ⟨by rfl, ?_⟩) ?_ ?_
            rotate_left
            · intro w'
              go_simp
              with_reducible rfl
            rotate_left
            · simp only [Act.put, List.setIfInBounds_toArray, List.set_cons_zero, List.set_cons_succ, i64_w, i32_w]
              rfl
            refine pure_ (i := 14) (N := some 147) (v := ?_) (a' := ?_) #[true, true, true, true, true, true, true, true, true, true, true, true, true, true, true, false] rfl rfl (any_of HT_.out (by kernel_rfl)) (fun _ _ _ h => h) (Or.inl ⟨by rfl, ?_⟩) ?_ ?_
            rotate_left
            · intro w'
              go_simp
              with_reducible rfl
            rotate_left
            · simp only [Act.put, List.setIfInBounds_toArray, List.set_cons_zero, List.set_cons_succ, i64_w, i32_w]
              rfl
            refine last_ (i := 15) (N := none) #[true, true, true, true, true, true, true, true, true, true, true, true, true, true, true, true] rfl rfl (one_of HT_.out (by kernel_rfl)) (by decide) (fun K hK => ?_)
            refine skip_ (w1 := ?_) (by rfl) rfl ?_ ?_
            rotate_left
            · go_simp
              rfl
            refine hK.out _ _ ?_
            clear hK K
            refine done_ (done_of HT_.out (by kernel_rfl)) ?_
            go_wp2_with fail
            go_meet
            obtain ⟨hR, hg⟩ := (SecSt.start S2.out.D.H1 q0 q1).put0 q0 q1 (u := toldC l md (j : Int) x) (show j * 5 = (j : Int).toNat * 5 + 0 by rw [Int.toNat_natCast, Nat.add_zero])
            rw [HX.out] at hR
            rw [HRS.out] at hR
            exact ⟨S2.out.sec hR hg⟩
          case rest =>
            go_wp2_with fail
            go_roundg gk
            case measure => omega
            case rel => exact ⟨j + 1, by go_num, ⟨by have := HJ.out; omega⟩, hcut⟩
      · have hlt' : decide ((j : Int) < (ss.length : Int)) = false := decide_eq_false (by omega)
        have hj : j = ss.length := by have := HJ.out; omega
        have hre : retoldTo l md ms j = retold l md ms := by rw [retold, HLM.out, hj]
        have SF0 := Aside0.mk (show SpSt w wr gl gz go ge gd [.int .i64 n, .slice A l.length c] [.bool true, .slice A1 ss.length c1, .slice A2 dd.length c2] [.bool true, .slice (some ⟨gr, 0, none⟩) ss.length cr, .slice Ad dd.length cd] [.int .i64 op, .int .i64 of, .int .i64 dir] [.int .i64 0, .bool false, .slice none 0 0, .slice none 0 0] (.slice (some ⟨gr, 0, none⟩) ss.length cr) (.slice Ad dd.length cd) (doSecs l ss dd op of dir) md by rw [← HDS.out, ← hre]; exact SL.out)
        clear hj hre SL
        have kgo0 : wr.cell? ⟨go, 0, none⟩ = some (.bool true) := (blk_cell SF0.out.D.hs 0).trans rfl
        have kgo1 : wr.cell? ⟨go, 1, none⟩ = some (.slice (some ⟨gr, 0, none⟩) ss.length cr) := (blk_cell SF0.out.D.hs 1).trans rfl
        have kgo2 : wr.cell? ⟨go, 2, none⟩ = some (.slice Ad dd.length cd) := (blk_cell SF0.out.D.hs 2).trans rfl
        have kd0 : wr.cell? ⟨gd, 0, none⟩ = some (.int .i64 0) := (blk_cell SF0.out.D.hd 0).trans rfl
        have kz0 := blk_frozen SF0.out.D.hd 0
        have kd1 : wr.cell? ⟨gd, 1, none⟩ = some (.bool false) := (blk_cell SF0.out.D.hd 1).trans rfl
        have kz1 := blk_frozen SF0.out.D.hd 1
        have kd2 : wr.cell? ⟨gd, 2, none⟩ = some (.slice none 0 0) := (blk_cell SF0.out.D.hd 2).trans rfl
        have kz2 := blk_frozen SF0.out.D.hd 2
        have kd3 : wr.cell? ⟨gd, 3, none⟩ = some (.slice none 0 0) := (blk_cell SF0.out.D.hd 3).trans rfl
        have kz3 := blk_frozen SF0.out.D.hd 3
        go_wp2_with fail
        have SF := SF0.out.D.fill (y0 := .int .i64 code) (y1 := .bool true) (y2 := (.slice (some ⟨gr, 0, none⟩) ss.length cr)) (y3 := (.slice Ad dd.length cd))
        exact bodyPost_ret (results_cell_row rfl _ _ gd 48 _ (0, 0) _ rfl SF.hd Try.underlying48 rfl (by kernel_rfl)) rfl ⟨_, _, by rw [HQ.out], SF.H1, by rw [HMD.out]; exact SF.H2, SF.hB⟩
end Go.Proofs.Ytpdnabhpkdchjaa.P
namespace Go.Proofs.Ytpdnabhpkdchjaa.P
open Go.RowKit Go.Proofs.YtpdnabhpkdchjaaW.PrintWords Go.Proofs.YtpdnabhpkdchjaaW.PrintLast Go.Proofs.YtpdnabhpkdchjaaW.PrintMore
attribute [local go_sem ↓] Go.wp_at_zero Go.wp_at_succ
set_option linter.unusedVariables false
set_option linter.unusedSimpArgs false
theorem told_v {n : Int} {A : Option Addr} {c : Nat} {l : List S88} {b : Bool} {A1 : Option Addr} {c1 : Nat} {ss : List S50} {A2 : Option Addr} {c2 : Nat} {dd : List Bool} {w : World} {v : Int} (i : Int) (hv : toldC l dd i (rd_T50 ss i) = v) (hr : Kd.C k88 w A l.length l) (hc : l.length ≤ c) (hr1 : Kd.C k50 w A1 ss.length ss) (hc1 : ss.length ≤ c1) (hr2 : Kd.C Kd.bool w A2 dd.length dd) (hc2 : dd.length ≤ c2)
    (hl : l.length ≤ 1048576) (hd : dd.length = l.length) (h0 : 0 ≤ i) (h1 : i < ss.length) :
    Calls Try.prog 97 #[.agg #[.int .i64 n, .slice A l.length c], .agg #[.bool b, .slice A1 ss.length c1, .slice A2 dd.length c2], .int .i64 i] w fun e w' => e = .returned (.int .i64 v) ∧ Below w.heap.size w w' := by
  rw [← hv]
  exact told_at i hr hc hr1 hc1 hr2 hc2 hl hd h0 h1
def it_T6 : Bool × List (List Nat × List Nat) := (true, [([], []), ([0], [0]), ([1], [1]), ([2], [2]), ([3], [3]), ([4, 3], [3, 4]), ([5, 3], [3, 5]), ([3, 6], [3, 6]), ([7, 3], [7]), ([8], [8]), ([9, 8], [8, 9]), ([10, 8], [8, 10]), ([8, 11], [8, 11]), ([12, 8], [12]), ([13], [13]), ([14, 13], [13, 14]), ([15, 13], [13, 15]), ([13, 16], [13, 16]), ([17, 13], [17]), ([18], [18]), ([19, 18], [18, 19]), ([18], [18]), ([18], [18]), ([18], [18]), ([21, 22, 23, 18, 18], [18, 21, 22, 23]), ([20, 24, 18], [18, 20, 24]), ([18, 25], [18, 25])])
def it_B6 : List Nat := [0, 1, 3, 7, 15, 31, 63, 127, 255, 511, 1023, 2047, 4095, 8191, 16383, 32767, 65535, 131071, 262143, 524287, 1048575, 524287, 524287, 524287, 15204351, 33554431, 67108863]
theorem it_tab6 : rtab .any (opsOf Try.f32 6) = it_T6 := by kernel_rfl
theorem it_bits6 : waitsOk it_T6.2 it_B6 = true := by kernel_rfl
set_option maxHeartbeats 16000000 in
set_option maxRecDepth 100000 in
theorem ist_any {n : Int} {A : Option Addr} {c : Nat} {l : List S88} {b : Bool} {A1 : Option Addr} {c1 : Nat} {ss : List S50} {A2 : Option Addr} {c2 : Nat} {dd : List Bool} {w : World}
    (hr : Kd.C k88 w A l.length l) (hc : l.length ≤ c) (hr1 : Kd.C k50 w A1 ss.length ss) (hc1 : ss.length ≤ c1) (hr2 : Kd.C Kd.bool w A2 dd.length dd) (hc2 : dd.length ≤ c2) :
    Calls Try.prog 32 #[.agg #[.int .i64 n, .slice A l.length c], .agg #[.bool b, .slice A1 ss.length c1, .slice A2 dd.length c2]] w fun e w' => e = .returned (.bool (stateOk n l b ss dd)) ∧ Below w.heap.size w w' := by
  have HR := Aside0.mk hr
  have HR1 := Aside0.mk hr1
  have HR2 := Aside0.mk hr2
  have HC := Aside0.mk hc
  have HC1 := Aside0.mk hc1
  have HC2 := Aside0.mk hc2
  obtain ⟨lv, hlv⟩ : ∃ lv, layoutOk n l = lv := ⟨_, rfl⟩
  have HLV := Aside0.mk hlv
  obtain ⟨so, hso⟩ : ∃ so, stateOk n l b ss dd = so := ⟨_, rfl⟩
  have HSO := Aside0.mk hso
  rw [hso]
  have HT4 := Aside0.mk (stateOk_tests n l b ss dd)
  rw [hso, hlv] at HT4
  clear hr hr1 hr2 hc hc1 hc2 hlv hso
  go_enter Try.func32, Try.ntmps32
  go_upto_region 1 with (first | ((with_reducible refine gate_dst (N := 2) rfl ?_); refine box_event ?hg (N := 2) ?hd (cs := #[.int .i64 n, .slice A l.length c]) (t := 30) ?hr ?_; (case hd => rfl); (case hg => rfl); (case hr => first | (go_simp; done) | (go_simp; rfl)); intro gl el wl kl bl; clear el) | ((with_reducible refine gate_dst (N := 3) rfl ?_); refine box_event ?hg (N := 3) ?hd (cs := #[.bool b, .slice A1 ss.length c1, .slice A2 dd.length c2]) (t := 46) ?hr ?_; (case hd => rfl); (case hg => rfl); (case hr => first | (go_simp; done) | (go_simp; rfl)); intro gz ez wz kz bz; clear ez))
  have S0 : Aside0 (StSt w wz gl gz [.int .i64 n, .slice A l.length c] [.bool b, .slice A1 ss.length c1, .slice A2 dd.length c2]) := ⟨⟨below_step bl bz, blk_below kl bz, kz⟩⟩
  clear kl kz bl bz
  try simp only [Act.put, List.setIfInBounds_toArray, List.set_cons_zero, List.set_cons_succ]
  have kl0 : wz.cell? ⟨gl, 0, none⟩ = some (.int .i64 n) := (blk_cell S0.out.hl 0).trans rfl
  have kl1 : wz.cell? ⟨gl, 1, none⟩ = some (.slice A l.length c) := (blk_cell S0.out.hl 1).trans rfl
  by_cases hgood : (lv != 0) = false ∧ b = true ∧ ((ss.length : Int) != n) = false ∧ ((dd.length : Int) != (l.length : Int)) = false
  rotate_left
  · have HF := Aside0.mk (HT4.out.1 hgood)
    cases h1 : (lv != 0) <;> cases b <;> cases h3 : ((ss.length : Int) != n) <;> cases h4 : ((dd.length : Int) != (l.length : Int)) <;>
    rw [h1, h3, h4] at hgood <;>
    first
    | (simp at hgood; done)
    | (clear hgood
       go_wp2_with (go_at_call 25; refine (lay_is (Kd.C_below HR.out S0.out.hB) HC.out).mono ?_; rintro e w1 ⟨h, hb⟩; rw [HLV.out] at h; subst h; have S1 := Aside0.mk (S0.out.up hb); have kl0 : w1.cell? ⟨gl, 0, none⟩ = some (.int .i64 n) := (blk_cell S1.out.hl 0).trans rfl; have kl1 : w1.cell? ⟨gl, 1, none⟩ = some (.slice A l.length c) := (blk_cell S1.out.hl 1).trans rfl; have kz0 : w1.cell? ⟨gz, 0, none⟩ = some (.bool _) := (blk_cell S1.out.hz 0).trans rfl; have kz1 : w1.cell? ⟨gz, 1, none⟩ = some (.slice A1 ss.length c1) := (blk_cell S1.out.hz 1).trans rfl; have kz2 : w1.cell? ⟨gz, 2, none⟩ = some (.slice A2 dd.length c2) := (blk_cell S1.out.hz 2).trans rfl; clear hb)
       go_ret
       exact ⟨by rw [HF.out]; rfl, S1.out.hB⟩)
  obtain ⟨h1, rfl, h3, h4⟩ := hgood
  have HL := Aside0.mk (show layoutOk n l = 0 by rw [HLV.out]; simpa using h1)
  have HN := Aside0.mk (show (ss.length : Int) = n by simpa using h3)
  have HDL := Aside0.mk (show dd.length = l.length by simp at h4; omega)
  have HLL := Aside0.mk (show l.length ≤ 1048576 by have := lay_n HL.out; omega)
  have H60 := Aside0.mk (show ss.length ≤ 60 by have := lay_n HL.out; have := HN.out; omega)
  have HSF := Aside0.mk (show so = secsFrom l dd ss ss.length 0 from HT4.out.2 (by rw [← HLV.out]; exact HL.out) HN.out HDL.out rfl)
  clear HT4 HSO
  go_wp2_with (go_at_call 25; refine (lay_is (Kd.C_below HR.out S0.out.hB) HC.out).mono ?_; rintro e w1 ⟨h, hb⟩; rw [HLV.out] at h; subst h; have S1 := Aside0.mk (S0.out.up hb); have kl0 : w1.cell? ⟨gl, 0, none⟩ = some (.int .i64 n) := (blk_cell S1.out.hl 0).trans rfl; have kl1 : w1.cell? ⟨gl, 1, none⟩ = some (.slice A l.length c) := (blk_cell S1.out.hl 1).trans rfl; have kz0 : w1.cell? ⟨gz, 0, none⟩ = some (.bool true) := (blk_cell S1.out.hz 0).trans rfl; have kz1 : w1.cell? ⟨gz, 1, none⟩ = some (.slice A1 ss.length c1) := (blk_cell S1.out.hz 1).trans rfl; have kz2 : w1.cell? ⟨gz, 2, none⟩ = some (.slice A2 dd.length c2) := (blk_cell S1.out.hz 2).trans rfl; clear hb)
  clear S0 kl0 kl1 kz0 kz1 kz2 h1 h3 h4
  go_loopg [35] ss.length (fun kq v35 w' => ∃ j : Nat, v35 = .int .i64 j ∧ Aside0 (j + kq = ss.length) ∧ Aside0 (so = secsFrom l dd ss kq j) ∧ Aside0 (StSt w w' gl gz [.int .i64 n, .slice A l.length c] [.bool true, .slice A1 ss.length c1, .slice A2 dd.length c2]))
  case atStart => exact ⟨0, rfl, ⟨by omega⟩, HSF, S1⟩
  case round =>
    clear S1 HSF
    obtain ⟨j, rfl, HJ, HSF, SL⟩ := hrel
    by_cases hlt : j < ss.length
    · cases gk with
      | zero => exact absurd HJ.out (by omega)
      | succ gk =>
      have hlt' : decide ((j : Int) < (ss.length : Int)) = true := decide_eq_true (by omega)
      have q0 : (0 : Int) ≤ (j : Int) := by omega
      have q1 : (j : Int) < (ss.length : Int) := by omega
      have HJN := Aside0.mk (show (j : Int) < n by have := HN.out; omega)
      have HSF := Aside0.mk (show so = (secOk l dd (j : Int) (rd_T50 ss (j : Int)) && secsFrom l dd ss gk (j + 1)) from HSF.out)
      obtain ⟨ad, e, x0, x1, x2, x3, x4⟩ := at_T50 HR1.out (j : Int) q0 q1
      cases e
      rw [Int.toNat_natCast] at x0 x1 x2 x3 x4
      obtain ⟨tv, htv⟩ : ∃ tv, toldC l dd (j : Int) (rd_T50 ss (j : Int)) = tv := ⟨_, rfl⟩
      have HTV := Aside0.mk htv
      have HSK := Aside0.mk (secOk_parts l dd (j : Int) (rd_T50 ss (j : Int)))
      rw [htv] at HSK
      clear htv
      generalize rd_T50 ss (j : Int) = x at x0 x1 x2 x3 x4 HSF HSK
      have y0 := pw_cell_below SL.out.hB x0
      have y1 := pw_cell_below SL.out.hB x1
      have y2 := pw_cell_below SL.out.hB x2
      have y3 := pw_cell_below SL.out.hB x3
      have y4 := pw_cell_below SL.out.hB x4
      clear x0 x1 x2 x3 x4
      go_upto_region 6 with ((with_reducible refine gate_dst (N := 6) rfl ?_); refine box_event ?hg (N := 6) ?hd (cs := #[.int .i64 0, .int .i64 0, .bool false, .bool false, .int .i64 0]) (t := 50) ?hr ?_; (case hd => rfl); (case hg => rfl); (case hr => first | (go_simp; done) | (go_simp; rfl)); intro gx ex wx kx bx; have EX := Aside0.mk ex; have KX := Aside0.mk kx; have BX := Aside0.mk bx; have kx0 : wx.cell? ⟨gx, 0, none⟩ = some (.int .i64 0) := (blk_cell KX.out 0).trans rfl; have kx1 : wx.cell? ⟨gx, 1, none⟩ = some (.int .i64 0) := (blk_cell KX.out 1).trans rfl; have kx2 : wx.cell? ⟨gx, 2, none⟩ = some (.bool false) := (blk_cell KX.out 2).trans rfl; have kx3 : wx.cell? ⟨gx, 3, none⟩ = some (.bool false) := (blk_cell KX.out 3).trans rfl; have kx4 : wx.cell? ⟨gx, 4, none⟩ = some (.int .i64 0) := (blk_cell KX.out 4).trans rfl; have zx0 := blk_frozen KX.out 0; have zx1 := blk_frozen KX.out 1; have zx2 := blk_frozen KX.out 2; have zx3 := blk_frozen KX.out 3; have zx4 := blk_frozen KX.out 4; clear ex kx bx)
      have S2 := Aside0.mk (SL.out.fill (y0 := .int .i64 x.f0) (y1 := .int .i64 x.f1) (y2 := .bool x.f2) (y3 := .bool x.f3) (y4 := .int .i64 x.f4) KX.out BX.out (Nat.le_of_eq EX.out.symm))
      clear kx0 kx1 kx2 kx3 kx4 zx0 zx1 zx2 zx3 zx4 KX BX y0 y1 y2 y3 y4
      generalize ((((wx.setCell ⟨gx, 0, none⟩ (.int .i64 x.f0)).setCell ⟨gx, 1, none⟩ (.int .i64 x.f1)).setCell ⟨gx, 2, none⟩ (.bool x.f2)).setCell ⟨gx, 3, none⟩ (.bool x.f3)).setCell ⟨gx, 4, none⟩ (.int .i64 x.f4) = w2 at S2 ⊢
      go_cut [66] from 36 to 100 (fun y wx => ∃ r, y = .bool r ∧ Aside0 (r = (decide (x.f1 < -1000000) || decide (1000000 < x.f1) || decide (x.f4 < -1) || decide (1 < x.f4) || (x.f0 != tv))) ∧ Aside0 (SeSt w wx gl gz gx [.int .i64 n, .slice A l.length c] [.bool true, .slice (some ad) ss.length c1, .slice A2 dd.length c2] [.int .i64 x.f0, .int .i64 x.f1, .bool x.f2, .bool x.f3, .int .i64 x.f4]))
      case first =>
        have SD := Aside0.mk (S2.out.up (below_drew1 (Below.refl w2.heap.size w2)))
        have kl0 : w2.drew.cell? ⟨gl, 0, none⟩ = some (.int .i64 n) := (blk_cell SD.out.S.hl 0).trans rfl
        have kl1 : w2.drew.cell? ⟨gl, 1, none⟩ = some (.slice A l.length c) := (blk_cell SD.out.S.hl 1).trans rfl
        have kz0 : w2.drew.cell? ⟨gz, 0, none⟩ = some (.bool true) := (blk_cell SD.out.S.hz 0).trans rfl
        have kz1 : w2.drew.cell? ⟨gz, 1, none⟩ = some (.slice (some ad) ss.length c1) := (blk_cell SD.out.S.hz 1).trans rfl
        have kz2 : w2.drew.cell? ⟨gz, 2, none⟩ = some (.slice A2 dd.length c2) := (blk_cell SD.out.S.hz 2).trans rfl
        have kx0 : w2.drew.cell? ⟨gx, 0, none⟩ = some (.int .i64 x.f0) := (blk_cell SD.out.hx 0).trans rfl
        have kx1 : w2.drew.cell? ⟨gx, 1, none⟩ = some (.int .i64 x.f1) := (blk_cell SD.out.hx 1).trans rfl
        have kx2 : w2.drew.cell? ⟨gx, 2, none⟩ = some (.bool x.f2) := (blk_cell SD.out.hx 2).trans rfl
        have kx3 : w2.drew.cell? ⟨gx, 3, none⟩ = some (.bool x.f3) := (blk_cell SD.out.hx 3).trans rfl
        have kx4 : w2.drew.cell? ⟨gx, 4, none⟩ = some (.int .i64 x.f4) := (blk_cell SD.out.hx 4).trans rfl
        have hways : decide (x.f1 < -1000000) = true ∨ (decide (x.f1 < -1000000) = false ∧ decide (1000000 < x.f1) = true) ∨ (decide (x.f1 < -1000000) = false ∧ decide (1000000 < x.f1) = false ∧ decide (x.f4 < -1) = true) ∨ (decide (x.f1 < -1000000) = false ∧ decide (1000000 < x.f1) = false ∧ decide (x.f4 < -1) = false ∧ decide (1 < x.f4) = true) ∨ (decide (x.f1 < -1000000) = false ∧ decide (1000000 < x.f1) = false ∧ decide (x.f4 < -1) = false ∧ decide (1 < x.f4) = false) := by cases decide (x.f1 < -1000000) <;> cases decide (1000000 < x.f1) <;> cases decide (x.f4 < -1) <;> cases decide (1 < x.f4) <;> simp
        rcases hways with h1 | ⟨h1, h2⟩ | ⟨h1, h2, h3⟩ | ⟨h1, h2, h3, h4⟩ | ⟨h1, h2, h3, h4⟩
        all_goals
          refine startK 27 (S := fun w' => w'.cell? ⟨gl, 0, none⟩ = some (.int .i64 n) ∧ w'.cell? ⟨gl, 1, none⟩ = some (.slice A l.length c) ∧ w'.cell? ⟨gz, 0, none⟩ = some (.bool true) ∧ w'.cell? ⟨gz, 1, none⟩ = some (.slice (some ad) ss.length c1) ∧ w'.cell? ⟨gz, 2, none⟩ = some (.slice A2 dd.length c2) ∧ w'.cell? ⟨gx, 0, none⟩ = some (.int .i64 x.f0) ∧ w'.cell? ⟨gx, 1, none⟩ = some (.int .i64 x.f1) ∧ w'.cell? ⟨gx, 2, none⟩ = some (.bool x.f2) ∧ w'.cell? ⟨gx, 3, none⟩ = some (.bool x.f3) ∧ w'.cell? ⟨gx, 4, none⟩ = some (.int .i64 x.f4)) (ds := []) (by kernel_rfl) rfl ⟨kl0, kl1, kz0, kz1, kz2, kx0, kx1, kx2, kx3, kx4⟩ (fun hHeld => ?_)
          refine with_tabW it_tab6 it_bits6 (fun HT_ HW_ => ?_)
          repeat (first
            | (refine take0 (v := ?_) (a' := ?_) (by simp only [Nat.reduceAdd]; rfl) (by rfl) HT_.out HW_.out (by kernel_rfl) (by exact fun _ _ _ h => h) hHeld ?_ ?_ ?_; rotate_left 2; (· rintro w' ⟨s0, s1, s2, s3, s4, s5, s6, s7, s8, s9⟩; go_simp; with_reducible rfl); (· simp only [Act.put, List.setIfInBounds_toArray, List.set_cons_zero, List.set_cons_succ, i64_w, i32_w]; rfl))
            | (refine takeG (v := ?_) (a' := ?_) (by simp only [Nat.reduceAdd]; rfl) (by rfl) (by rfl) HT_.out HW_.out (by kernel_rfl) (by exact fun _ _ _ h => h) hHeld ?_ ?_ ?_; rotate_left 2; (· first | (rw [if_neg (by decide)]; done) | (rw [if_pos (by decide)]; rintro w' ⟨s0, s1, s2, s3, s4, s5, s6, s7, s8, s9⟩; go_simp; with_reducible rfl)); (· simp only [Act.put, List.setIfInBounds_toArray, List.set_cons_zero, List.set_cons_succ, i64_w, i32_w]; rfl))
            | (refine oneK (by simp only [Nat.reduceAdd]; rfl) (by rfl) HT_.out (by kernel_rfl) (by decide) (fun K hK => ?_); refine goes_ Try.func97 (by kernel_rfl) rfl #[.agg #[.int .i64 n, .slice A l.length c], .agg #[.bool true, .slice (some ad) ss.length c1, .slice A2 dd.length c2], .int .i64 (j : Int)] (by rfl) rfl rfl (by (try simp only [List.map_toArray, List.map_cons, List.map_nil]); first | done | rfl | (simp only [List.length_drop, List.length_take]; rfl)) ?_; ((with_reducible refine (told_v (b := true) (j : Int) HTV.out (Kd.C_below HR.out SD.out.S.hB) HC.out (Kd.C_below HR1.out SD.out.S.hB) HC1.out (Kd.C_below HR2.out SD.out.S.hB) HC2.out HLL.out HDL.out q0 q1).mono ?_); rintro e w' ⟨rfl, hb⟩); refine ⟨_, rfl, ?_⟩; have SD := Aside0.mk (SD.out.up hb); refine hK.out _ _ ⟨pw_cell_below hb hHeld.1, pw_cell_below hb hHeld.2.1, pw_cell_below hb hHeld.2.2.1, pw_cell_below hb hHeld.2.2.2.1, pw_cell_below hb hHeld.2.2.2.2.1, pw_cell_below hb hHeld.2.2.2.2.2.1, pw_cell_below hb hHeld.2.2.2.2.2.2.1, pw_cell_below hb hHeld.2.2.2.2.2.2.2.1, pw_cell_below hb hHeld.2.2.2.2.2.2.2.2.1, pw_cell_below hb hHeld.2.2.2.2.2.2.2.2.2⟩ (fun hHeld => ?_); clear hK K; refine norm_ (a' := ?_) ?_ ?_; rotate_left; (· simp only [Act.put, List.setIfInBounds_toArray, List.set_cons_zero, List.set_cons_succ, i64_w, i32_w]; rfl)))
          refine done_ (done_of HT_.out (by kernel_rfl)) ?_
          go_wp2_with fail
          go_meet
          exact ⟨_, rfl, ⟨by simp only [*, Bool.or_true, Bool.true_or, Bool.false_or, Bool.or_false, Bool.not_true, Bool.not_false]⟩, SD⟩
      case rest =>
        obtain ⟨r6, rfl, H6, SD⟩ := hcut
        clear S2
        have W1 := Aside0.mk (show wrap64 ((j : Int) + 1) = ((j + 1 : Nat) : Int) from (wrap_id (by omega) (by have := H60.out; omega)).trans (by omega))
        cases r6 with
        | true =>
          have HFF := Aside0.mk (show so = false by rw [HSF.out, HSK.out.1 (H6.out.symm)]; rfl)
          go_wp2_with fail
          go_ret
          exact ⟨by rw [HFF.out]; rfl, SD.out.S.hB⟩
        | false =>
          have HRV := Aside0.mk (HSK.out.2 (H6.out.symm))
          clear HSK H6 HTV
          have kl0 : wc.cell? ⟨gl, 0, none⟩ = some (.int .i64 n) := (blk_cell SD.out.S.hl 0).trans rfl
          have kl1 : wc.cell? ⟨gl, 1, none⟩ = some (.slice A l.length c) := (blk_cell SD.out.S.hl 1).trans rfl
          have kz0 : wc.cell? ⟨gz, 0, none⟩ = some (.bool true) := (blk_cell SD.out.S.hz 0).trans rfl
          have kz1 : wc.cell? ⟨gz, 1, none⟩ = some (.slice (some ad) ss.length c1) := (blk_cell SD.out.S.hz 1).trans rfl
          have kz2 : wc.cell? ⟨gz, 2, none⟩ = some (.slice A2 dd.length c2) := (blk_cell SD.out.S.hz 2).trans rfl
          have kx0 : wc.cell? ⟨gx, 0, none⟩ = some (.int .i64 x.f0) := (blk_cell SD.out.hx 0).trans rfl
          have kx1 : wc.cell? ⟨gx, 1, none⟩ = some (.int .i64 x.f1) := (blk_cell SD.out.hx 1).trans rfl
          have kx2 : wc.cell? ⟨gx, 2, none⟩ = some (.bool x.f2) := (blk_cell SD.out.hx 2).trans rfl
          have kx3 : wc.cell? ⟨gx, 3, none⟩ = some (.bool x.f3) := (blk_cell SD.out.hx 3).trans rfl
          have kx4 : wc.cell? ⟨gx, 4, none⟩ = some (.int .i64 x.f4) := (blk_cell SD.out.hx 4).trans rfl
          rw [HRV.out] at HSF
          clear HRV
          cases hp : decide (x.f1 < 0) <;> cases hq : x.f2 <;> cases hd : deadAt l dd (j : Int) <;> cases hr : x.f3 <;> cases hz : (x.f1 == 0) <;> cases hm : (x.f4 == -1) <;> rw [hp, hq, hd, hr, hz, hm] at HSF <;>
          (rw [hq] at kx2
           rw [hr] at kx3
           have HD := Aside0.mk hd
           clear hd
           go_wp2_with (go_at_call 98; refine (dead_at (b := true) (j : Int) HD.out (Kd.C_below HR.out SD.out.S.hB) HC.out (Kd.C_below HR1.out SD.out.S.hB) HC1.out (Kd.C_below HR2.out SD.out.S.hB) HC2.out HLL.out HDL.out).mono ?_; rintro e w9 ⟨rfl, hb⟩; have SD := Aside0.mk (SD.out.up hb); have kx0 := pw_cell_below hb kx0; have kx1 := pw_cell_below hb kx1; have kx2 := pw_cell_below hb kx2; have kx3 := pw_cell_below hb kx3; have kx4 := pw_cell_below hb kx4; clear hb)
           first
           | (go_roundg gk
              case measure => omega
              case rel => exact ⟨j + 1, congrArg (Value.int .i64) W1.out, ⟨by have := HJ.out; omega⟩, ⟨HSF.out.trans rfl⟩, ⟨SD.out.S⟩⟩)
           | (go_ret
              exact ⟨by rw [HSF.out]; rfl, SD.out.S.hB⟩))
    · have hlt' : decide ((j : Int) < (ss.length : Int)) = false := decide_eq_false (by omega)
      have HFT := Aside0.mk (show so = true by rw [HSF.out, show gk = 0 by have := HJ.out; omega]; rfl)
      go_wp2
      go_ret
      exact ⟨by rw [HFT.out]; rfl, SL.out.hB⟩
end Go.Proofs.Ytpdnabhpkdchjaa.P
namespace Go.Proofs.Ytpdnabhpkdchjaa.P
open Go.RowKit Go.Proofs.YtpdnabhpkdchjaaW.PrintWords Go.Proofs.YtpdnabhpkdchjaaW.PrintLast Go.Proofs.YtpdnabhpkdchjaaW.PrintMore
set_option linter.unusedVariables false
set_option linter.unusedSimpArgs false
section
variable {n : Int} {A A1 A2 : Option Addr} {c c1 c2 : Nat} {l : List S88} {b : Bool} {ss : List S50} {dd : List Bool} {w : World}
theorem istA_at {v : Bool} (hv : stateOk n l b ss dd = v) (hr : Kd.C k88 w A l.length l) (hc : l.length ≤ c) (hr1 : Kd.C k50 w A1 ss.length ss) (hc1 : ss.length ≤ c1) (hr2 : Kd.C Kd.bool w A2 dd.length dd) (hc2 : dd.length ≤ c2) :
    Calls Try.prog 32 #[.agg #[.int .i64 n, .slice A l.length c], .agg #[.bool b, .slice A1 ss.length c1, .slice A2 dd.length c2]] w fun e w' => e = .returned (.bool v) ∧ Below w.heap.size w w' := hv ▸ ist_any hr hc hr1 hc1 hr2 hc2
theorem sstA_at {v : Bool} (hv : stateOk n l b ss dd = v) (hr : Kd.C k88 w A l.length l) (hc : l.length ≤ c) (hr1 : Kd.C k50 w A1 ss.length ss) (hc1 : ss.length ≤ c1) (hr2 : Kd.C Kd.bool w A2 dd.length dd) (hc2 : dd.length ≤ c2) :
    Calls Try.prog 56 #[.agg #[.int .i64 n, .slice A l.length c], .agg #[.bool b, .slice A1 ss.length c1, .slice A2 dd.length c2]] w fun e w' => e = .returned (.bool v) ∧ Below w.heap.size w w' := hv ▸ sst_any hr hc hr1 hc1 hr2 hc2
end
set_option maxHeartbeats 4000000 in
set_option maxRecDepth 100000 in
theorem sdo_badA (n : Int) (A : Option Addr) (c : Nat) (l : List S88) (b : Bool) (A1 : Option Addr) (c1 : Nat) (ss : List S50) (A2 : Option Addr) (c2 : Nat) (dd : List Bool) (op of dir : Int) (w : World)
    (hr : Kd.C k88 w A l.length l) (hc : l.length ≤ c) (hr1 : Kd.C k50 w A1 ss.length ss) (hc1 : ss.length ≤ c1) (hr2 : Kd.C Kd.bool w A2 dd.length dd) (hc2 : dd.length ≤ c2) (hst : stateOk n l b ss dd = false) :
    Calls Try.prog 69 #[.agg #[.int .i64 n, .slice A l.length c], .agg #[.bool b, .slice A1 ss.length c1, .slice A2 dd.length c2], .agg #[.int .i64 op, .int .i64 of, .int .i64 dir]] w fun e w' => e = .returned (.agg #[.int .i64 1, .bool false, .slice none 0 0, .slice none 0 0]) ∧ Below w.heap.size w w' := by
  have HR := Aside0.mk hr
  have HR1 := Aside0.mk hr1
  have HR2 := Aside0.mk hr2
  clear hr hr1 hr2
  go_enter Try.func69, Try.ntmps69
  go_upto_region 1 with (first | ((with_reducible refine gate_dst (N := 3) rfl ?_); refine box_event ?hg (N := 3) ?hd (cs := #[.int .i64 n, .slice A l.length c]) (t := 30) ?hr ?_; (case hd => rfl); (case hg => rfl); (case hr => first | (go_simp; done) | (go_simp; rfl)); intro gl el wl kl bl) | ((with_reducible refine gate_dst (N := 4) rfl ?_); refine box_event ?hg (N := 4) ?hd (cs := #[.bool b, .slice A1 ss.length c1, .slice A2 dd.length c2]) (t := 46) ?hr ?_; (case hd => rfl); (case hg => rfl); (case hr => first | (go_simp; done) | (go_simp; rfl)); intro gz ez wz kz bz) | ((with_reducible refine gate_dst (N := 5) rfl ?_); refine box_event ?hg (N := 5) ?hd (cs := #[.int .i64 op, .int .i64 of, .int .i64 dir]) (t := 56) ?hr ?_; (case hd => rfl); (case hg => rfl); (case hr => first | (go_simp; done) | (go_simp; rfl)); intro ge ee we ke be) | ((with_reducible refine gate_dst (N := 6) rfl ?_); refine box_event ?hg (N := 6) ?hd (cs := #[.int .i64 0, .bool false, .slice none 0 0, .slice none 0 0]) (t := 48) ?hr ?_; (case hd => rfl); (case hg => rfl); (case hr => first | (go_simp; done) | (go_simp; rfl)); intro gd ed wd kd_ bd))
  have KL := Aside0.mk (blk_below (blk_below (blk_below kl bz) be) bd)
  have KZ := Aside0.mk (blk_below (blk_below kz be) bd)
  have KE := Aside0.mk (blk_below ke bd)
  have KD := Aside0.mk kd_
  have BB := Aside0.mk (below_step (below_step (below_step bl bz) be) bd)
  have GL := Aside0.mk (show w.heap.size ≤ gl by rw [el]; exact Nat.le_refl _)
  have GZ := Aside0.mk (show w.heap.size ≤ gz by rw [ez]; exact bl.size)
  have GE := Aside0.mk (show w.heap.size ≤ ge by rw [ee]; exact (below_step bl bz).size)
  have GD := Aside0.mk (show w.heap.size ≤ gd by rw [ed]; exact (below_step (below_step bl bz) be).size)
  clear kl kz ke kd_ bl bz be bd el ez ee ed
  simp only [Act.put, List.setIfInBounds_toArray, List.set_cons_zero, List.set_cons_succ]
  have kl0 : wd.cell? ⟨gl, 0, none⟩ = some (.int .i64 n) := (blk_cell KL.out 0).trans rfl
  have kl1 : wd.cell? ⟨gl, 1, none⟩ = some (.slice A l.length c) := (blk_cell KL.out 1).trans rfl
  have kz0 : wd.cell? ⟨gz, 0, none⟩ = some (.bool b) := (blk_cell KZ.out 0).trans rfl
  have kz1 : wd.cell? ⟨gz, 1, none⟩ = some (.slice A1 ss.length c1) := (blk_cell KZ.out 1).trans rfl
  have kz2 : wd.cell? ⟨gz, 2, none⟩ = some (.slice A2 dd.length c2) := (blk_cell KZ.out 2).trans rfl
  have ke0 : wd.cell? ⟨ge, 0, none⟩ = some (.int .i64 op) := (blk_cell KE.out 0).trans rfl
  have ke1 : wd.cell? ⟨ge, 1, none⟩ = some (.int .i64 of) := (blk_cell KE.out 1).trans rfl
  have ke2 : wd.cell? ⟨ge, 2, none⟩ = some (.int .i64 dir) := (blk_cell KE.out 2).trans rfl
  have kd0 : wd.cell? ⟨gd, 0, none⟩ = some (.int .i64 0) := (blk_cell KD.out 0).trans rfl
  have kd1 : wd.cell? ⟨gd, 1, none⟩ = some (.bool false) := (blk_cell KD.out 1).trans rfl
  have kd2 : wd.cell? ⟨gd, 2, none⟩ = some (.slice none 0 0) := (blk_cell KD.out 2).trans rfl
  have kd3 : wd.cell? ⟨gd, 3, none⟩ = some (.slice none 0 0) := (blk_cell KD.out 3).trans rfl
  have zd0 := blk_frozen KD.out 0
  have zd1 := blk_frozen KD.out 1
  have zd2 := blk_frozen KD.out 2
  have zd3 := blk_frozen KD.out 3
  go_wp2_with (first | (go_at_call 56; refine (sstA_at hst (Kd.C_below HR.out BB.out) hc (Kd.C_below HR1.out BB.out) hc1 (Kd.C_below HR2.out BB.out) hc2).mono ?_; rintro e w1 ⟨rfl, hb⟩; have KL := Aside0.mk (blk_below KL.out hb); have KZ := Aside0.mk (blk_below KZ.out hb); have KE := Aside0.mk (blk_below KE.out hb); have KD := Aside0.mk (blk_below KD.out hb); have BB := Aside0.mk (below_step BB.out hb); clear hb; have kl0 : w1.cell? ⟨gl, 0, none⟩ = some (.int .i64 n) := (blk_cell KL.out 0).trans rfl; have kl1 : w1.cell? ⟨gl, 1, none⟩ = some (.slice A l.length c) := (blk_cell KL.out 1).trans rfl; have kz0 : w1.cell? ⟨gz, 0, none⟩ = some (.bool b) := (blk_cell KZ.out 0).trans rfl; have kz1 : w1.cell? ⟨gz, 1, none⟩ = some (.slice A1 ss.length c1) := (blk_cell KZ.out 1).trans rfl; have kz2 : w1.cell? ⟨gz, 2, none⟩ = some (.slice A2 dd.length c2) := (blk_cell KZ.out 2).trans rfl; have ke0 : w1.cell? ⟨ge, 0, none⟩ = some (.int .i64 op) := (blk_cell KE.out 0).trans rfl; have ke1 : w1.cell? ⟨ge, 1, none⟩ = some (.int .i64 of) := (blk_cell KE.out 1).trans rfl; have ke2 : w1.cell? ⟨ge, 2, none⟩ = some (.int .i64 dir) := (blk_cell KE.out 2).trans rfl; have kd0 : w1.cell? ⟨gd, 0, none⟩ = some (.int .i64 0) := (blk_cell KD.out 0).trans rfl; have kd1 : w1.cell? ⟨gd, 1, none⟩ = some (.bool false) := (blk_cell KD.out 1).trans rfl; have kd2 : w1.cell? ⟨gd, 2, none⟩ = some (.slice none 0 0) := (blk_cell KD.out 2).trans rfl; have kd3 : w1.cell? ⟨gd, 3, none⟩ = some (.slice none 0 0) := (blk_cell KD.out 3).trans rfl; have zd0 := blk_frozen KD.out 0; have zd1 := blk_frozen KD.out 1; have zd2 := blk_frozen KD.out 2; have zd3 := blk_frozen KD.out 3))
  have KF := blk_put (blk_put (blk_put (blk_put KD.out 0 (.int .i64 1) rfl) 1 (.bool false) rfl) 2 (.slice none 0 0) rfl) 3 (.slice none 0 0) rfl
  have BF := below_set (j := 3) (v := .slice none 0 0) (below_set (j := 2) (v := .slice none 0 0) (below_set (j := 1) (v := .bool false) (below_set (j := 0) (v := .int .i64 1) BB.out GD.out) GD.out) GD.out) GD.out
  exact bodyPost_ret (results_cell_row rfl _ _ gd 48 _ (0, 0) _ rfl KF Try.underlying48 rfl (by kernel_rfl)) rfl ⟨rfl, BF⟩
set_option maxHeartbeats 4000000 in
set_option maxRecDepth 100000 in
theorem ido_badS (n : Int) (A : Option Addr) (c : Nat) (l : List S88) (b : Bool) (A1 : Option Addr) (c1 : Nat) (ss : List S50) (A2 : Option Addr) (c2 : Nat) (dd : List Bool) (op of dir : Int) (w : World)
    (hr : Kd.C k88 w A l.length l) (hc : l.length ≤ c) (hr1 : Kd.C k50 w A1 ss.length ss) (hc1 : ss.length ≤ c1) (hr2 : Kd.C Kd.bool w A2 dd.length dd) (hc2 : dd.length ≤ c2) (hst : stateOk n l b ss dd = false) :
    Calls Try.prog 70 #[.agg #[.int .i64 n, .slice A l.length c], .agg #[.bool b, .slice A1 ss.length c1, .slice A2 dd.length c2], .agg #[.int .i64 op, .int .i64 of, .int .i64 dir]] w fun e w' => e = .returned (.agg #[.int .i64 1, .bool false, .slice none 0 0, .slice none 0 0]) ∧ Below w.heap.size w w' := by
  have HR := Aside0.mk hr
  have HR1 := Aside0.mk hr1
  have HR2 := Aside0.mk hr2
  clear hr hr1 hr2
  go_enter Try.func70, Try.ntmps70
  go_upto_region 1 with (first | ((with_reducible refine gate_dst (N := 3) rfl ?_); refine box_event ?hg (N := 3) ?hd (cs := #[.int .i64 n, .slice A l.length c]) (t := 30) ?hr ?_; (case hd => rfl); (case hg => rfl); (case hr => first | (go_simp; done) | (go_simp; rfl)); intro gl el wl kl bl) | ((with_reducible refine gate_dst (N := 4) rfl ?_); refine box_event ?hg (N := 4) ?hd (cs := #[.bool b, .slice A1 ss.length c1, .slice A2 dd.length c2]) (t := 46) ?hr ?_; (case hd => rfl); (case hg => rfl); (case hr => first | (go_simp; done) | (go_simp; rfl)); intro gz ez wz kz bz) | ((with_reducible refine gate_dst (N := 5) rfl ?_); refine box_event ?hg (N := 5) ?hd (cs := #[.int .i64 op, .int .i64 of, .int .i64 dir]) (t := 56) ?hr ?_; (case hd => rfl); (case hg => rfl); (case hr => first | (go_simp; done) | (go_simp; rfl)); intro ge ee we ke be) | ((with_reducible refine gate_dst (N := 6) rfl ?_); refine box_event ?hg (N := 6) ?hd (cs := #[.int .i64 0, .bool false, .slice none 0 0, .slice none 0 0]) (t := 48) ?hr ?_; (case hd => rfl); (case hg => rfl); (case hr => first | (go_simp; done) | (go_simp; rfl)); intro gd ed wd kd_ bd))
  have KL := Aside0.mk (blk_below (blk_below (blk_below kl bz) be) bd)
  have KZ := Aside0.mk (blk_below (blk_below kz be) bd)
  have KE := Aside0.mk (blk_below ke bd)
  have KD := Aside0.mk kd_
  have BB := Aside0.mk (below_step (below_step (below_step bl bz) be) bd)
  have GL := Aside0.mk (show w.heap.size ≤ gl by rw [el]; exact Nat.le_refl _)
  have GZ := Aside0.mk (show w.heap.size ≤ gz by rw [ez]; exact bl.size)
  have GE := Aside0.mk (show w.heap.size ≤ ge by rw [ee]; exact (below_step bl bz).size)
  have GD := Aside0.mk (show w.heap.size ≤ gd by rw [ed]; exact (below_step (below_step bl bz) be).size)
  clear kl kz ke kd_ bl bz be bd el ez ee ed
  simp only [Act.put, List.setIfInBounds_toArray, List.set_cons_zero, List.set_cons_succ]
  have kl0 : wd.cell? ⟨gl, 0, none⟩ = some (.int .i64 n) := (blk_cell KL.out 0).trans rfl
  have kl1 : wd.cell? ⟨gl, 1, none⟩ = some (.slice A l.length c) := (blk_cell KL.out 1).trans rfl
  have kz0 : wd.cell? ⟨gz, 0, none⟩ = some (.bool b) := (blk_cell KZ.out 0).trans rfl
  have kz1 : wd.cell? ⟨gz, 1, none⟩ = some (.slice A1 ss.length c1) := (blk_cell KZ.out 1).trans rfl
  have kz2 : wd.cell? ⟨gz, 2, none⟩ = some (.slice A2 dd.length c2) := (blk_cell KZ.out 2).trans rfl
  have ke0 : wd.cell? ⟨ge, 0, none⟩ = some (.int .i64 op) := (blk_cell KE.out 0).trans rfl
  have ke1 : wd.cell? ⟨ge, 1, none⟩ = some (.int .i64 of) := (blk_cell KE.out 1).trans rfl
  have ke2 : wd.cell? ⟨ge, 2, none⟩ = some (.int .i64 dir) := (blk_cell KE.out 2).trans rfl
  have kd0 : wd.cell? ⟨gd, 0, none⟩ = some (.int .i64 0) := (blk_cell KD.out 0).trans rfl
  have kd1 : wd.cell? ⟨gd, 1, none⟩ = some (.bool false) := (blk_cell KD.out 1).trans rfl
  have kd2 : wd.cell? ⟨gd, 2, none⟩ = some (.slice none 0 0) := (blk_cell KD.out 2).trans rfl
  have kd3 : wd.cell? ⟨gd, 3, none⟩ = some (.slice none 0 0) := (blk_cell KD.out 3).trans rfl
  have zd0 := blk_frozen KD.out 0
  have zd1 := blk_frozen KD.out 1
  have zd2 := blk_frozen KD.out 2
  have zd3 := blk_frozen KD.out 3
  go_wp2_with (first | (go_at_call 32; refine (istA_at hst (Kd.C_below HR.out BB.out) hc (Kd.C_below HR1.out BB.out) hc1 (Kd.C_below HR2.out BB.out) hc2).mono ?_; rintro e w1 ⟨rfl, hb⟩; have KL := Aside0.mk (blk_below KL.out hb); have KZ := Aside0.mk (blk_below KZ.out hb); have KE := Aside0.mk (blk_below KE.out hb); have KD := Aside0.mk (blk_below KD.out hb); have BB := Aside0.mk (below_step BB.out hb); clear hb; have kl0 : w1.cell? ⟨gl, 0, none⟩ = some (.int .i64 n) := (blk_cell KL.out 0).trans rfl; have kl1 : w1.cell? ⟨gl, 1, none⟩ = some (.slice A l.length c) := (blk_cell KL.out 1).trans rfl; have kz0 : w1.cell? ⟨gz, 0, none⟩ = some (.bool b) := (blk_cell KZ.out 0).trans rfl; have kz1 : w1.cell? ⟨gz, 1, none⟩ = some (.slice A1 ss.length c1) := (blk_cell KZ.out 1).trans rfl; have kz2 : w1.cell? ⟨gz, 2, none⟩ = some (.slice A2 dd.length c2) := (blk_cell KZ.out 2).trans rfl; have ke0 : w1.cell? ⟨ge, 0, none⟩ = some (.int .i64 op) := (blk_cell KE.out 0).trans rfl; have ke1 : w1.cell? ⟨ge, 1, none⟩ = some (.int .i64 of) := (blk_cell KE.out 1).trans rfl; have ke2 : w1.cell? ⟨ge, 2, none⟩ = some (.int .i64 dir) := (blk_cell KE.out 2).trans rfl; have kd0 : w1.cell? ⟨gd, 0, none⟩ = some (.int .i64 0) := (blk_cell KD.out 0).trans rfl; have kd1 : w1.cell? ⟨gd, 1, none⟩ = some (.bool false) := (blk_cell KD.out 1).trans rfl; have kd2 : w1.cell? ⟨gd, 2, none⟩ = some (.slice none 0 0) := (blk_cell KD.out 2).trans rfl; have kd3 : w1.cell? ⟨gd, 3, none⟩ = some (.slice none 0 0) := (blk_cell KD.out 3).trans rfl; have zd0 := blk_frozen KD.out 0; have zd1 := blk_frozen KD.out 1; have zd2 := blk_frozen KD.out 2; have zd3 := blk_frozen KD.out 3))
  have KF := blk_put (blk_put (blk_put (blk_put KD.out 0 (.int .i64 1) rfl) 1 (.bool false) rfl) 2 (.slice none 0 0) rfl) 3 (.slice none 0 0) rfl
  have BF := below_set (j := 3) (v := .slice none 0 0) (below_set (j := 2) (v := .slice none 0 0) (below_set (j := 1) (v := .bool false) (below_set (j := 0) (v := .int .i64 1) BB.out GD.out) GD.out) GD.out) GD.out
  exact bodyPost_ret (results_cell_row rfl _ _ gd 48 _ (0, 0) _ rfl KF Try.underlying48 rfl (by kernel_rfl)) rfl ⟨rfl, BF⟩
set_option maxHeartbeats 4000000 in
set_option maxRecDepth 100000 in
theorem ido_badE (n : Int) (A : Option Addr) (c : Nat) (l : List S88) (b : Bool) (A1 : Option Addr) (c1 : Nat) (ss : List S50) (A2 : Option Addr) (c2 : Nat) (dd : List Bool) (op of dir : Int) (w : World)
    (hr : Kd.C k88 w A l.length l) (hc : l.length ≤ c) (hr1 : Kd.C k50 w A1 ss.length ss) (hc1 : ss.length ≤ c1) (hr2 : Kd.C Kd.bool w A2 dd.length dd) (hc2 : dd.length ≤ c2) (hst : stateOk n l b ss dd = true) (hev : eventOk n l op of dir = false) :
    Calls Try.prog 70 #[.agg #[.int .i64 n, .slice A l.length c], .agg #[.bool b, .slice A1 ss.length c1, .slice A2 dd.length c2], .agg #[.int .i64 op, .int .i64 of, .int .i64 dir]] w fun e w' => e = .returned (.agg #[.int .i64 1, .bool false, .slice none 0 0, .slice none 0 0]) ∧ Below w.heap.size w w' := by
  have HR := Aside0.mk hr
  have HR1 := Aside0.mk hr1
  have HR2 := Aside0.mk hr2
  clear hr hr1 hr2
  go_enter Try.func70, Try.ntmps70
  go_upto_region 1 with (first | ((with_reducible refine gate_dst (N := 3) rfl ?_); refine box_event ?hg (N := 3) ?hd (cs := #[.int .i64 n, .slice A l.length c]) (t := 30) ?hr ?_; (case hd => rfl); (case hg => rfl); (case hr => first | (go_simp; done) | (go_simp; rfl)); intro gl el wl kl bl) | ((with_reducible refine gate_dst (N := 4) rfl ?_); refine box_event ?hg (N := 4) ?hd (cs := #[.bool b, .slice A1 ss.length c1, .slice A2 dd.length c2]) (t := 46) ?hr ?_; (case hd => rfl); (case hg => rfl); (case hr => first | (go_simp; done) | (go_simp; rfl)); intro gz ez wz kz bz) | ((with_reducible refine gate_dst (N := 5) rfl ?_); refine box_event ?hg (N := 5) ?hd (cs := #[.int .i64 op, .int .i64 of, .int .i64 dir]) (t := 56) ?hr ?_; (case hd => rfl); (case hg => rfl); (case hr => first | (go_simp; done) | (go_simp; rfl)); intro ge ee we ke be) | ((with_reducible refine gate_dst (N := 6) rfl ?_); refine box_event ?hg (N := 6) ?hd (cs := #[.int .i64 0, .bool false, .slice none 0 0, .slice none 0 0]) (t := 48) ?hr ?_; (case hd => rfl); (case hg => rfl); (case hr => first | (go_simp; done) | (go_simp; rfl)); intro gd ed wd kd_ bd))
  have KL := Aside0.mk (blk_below (blk_below (blk_below kl bz) be) bd)
  have KZ := Aside0.mk (blk_below (blk_below kz be) bd)
  have KE := Aside0.mk (blk_below ke bd)
  have KD := Aside0.mk kd_
  have BB := Aside0.mk (below_step (below_step (below_step bl bz) be) bd)
  have GL := Aside0.mk (show w.heap.size ≤ gl by rw [el]; exact Nat.le_refl _)
  have GZ := Aside0.mk (show w.heap.size ≤ gz by rw [ez]; exact bl.size)
  have GE := Aside0.mk (show w.heap.size ≤ ge by rw [ee]; exact (below_step bl bz).size)
  have GD := Aside0.mk (show w.heap.size ≤ gd by rw [ed]; exact (below_step (below_step bl bz) be).size)
  clear kl kz ke kd_ bl bz be bd el ez ee ed
  simp only [Act.put, List.setIfInBounds_toArray, List.set_cons_zero, List.set_cons_succ]
  have kl0 : wd.cell? ⟨gl, 0, none⟩ = some (.int .i64 n) := (blk_cell KL.out 0).trans rfl
  have kl1 : wd.cell? ⟨gl, 1, none⟩ = some (.slice A l.length c) := (blk_cell KL.out 1).trans rfl
  have kz0 : wd.cell? ⟨gz, 0, none⟩ = some (.bool b) := (blk_cell KZ.out 0).trans rfl
  have kz1 : wd.cell? ⟨gz, 1, none⟩ = some (.slice A1 ss.length c1) := (blk_cell KZ.out 1).trans rfl
  have kz2 : wd.cell? ⟨gz, 2, none⟩ = some (.slice A2 dd.length c2) := (blk_cell KZ.out 2).trans rfl
  have ke0 : wd.cell? ⟨ge, 0, none⟩ = some (.int .i64 op) := (blk_cell KE.out 0).trans rfl
  have ke1 : wd.cell? ⟨ge, 1, none⟩ = some (.int .i64 of) := (blk_cell KE.out 1).trans rfl
  have ke2 : wd.cell? ⟨ge, 2, none⟩ = some (.int .i64 dir) := (blk_cell KE.out 2).trans rfl
  have kd0 : wd.cell? ⟨gd, 0, none⟩ = some (.int .i64 0) := (blk_cell KD.out 0).trans rfl
  have kd1 : wd.cell? ⟨gd, 1, none⟩ = some (.bool false) := (blk_cell KD.out 1).trans rfl
  have kd2 : wd.cell? ⟨gd, 2, none⟩ = some (.slice none 0 0) := (blk_cell KD.out 2).trans rfl
  have kd3 : wd.cell? ⟨gd, 3, none⟩ = some (.slice none 0 0) := (blk_cell KD.out 3).trans rfl
  have zd0 := blk_frozen KD.out 0
  have zd1 := blk_frozen KD.out 1
  have zd2 := blk_frozen KD.out 2
  have zd3 := blk_frozen KD.out 3
  go_wp2_with (first | (go_at_call 32; refine (istA_at hst (Kd.C_below HR.out BB.out) hc (Kd.C_below HR1.out BB.out) hc1 (Kd.C_below HR2.out BB.out) hc2).mono ?_; rintro e w1 ⟨rfl, hb⟩; have KL := Aside0.mk (blk_below KL.out hb); have KZ := Aside0.mk (blk_below KZ.out hb); have KE := Aside0.mk (blk_below KE.out hb); have KD := Aside0.mk (blk_below KD.out hb); have BB := Aside0.mk (below_step BB.out hb); clear hb; have kl0 : w1.cell? ⟨gl, 0, none⟩ = some (.int .i64 n) := (blk_cell KL.out 0).trans rfl; have kl1 : w1.cell? ⟨gl, 1, none⟩ = some (.slice A l.length c) := (blk_cell KL.out 1).trans rfl; have kz0 : w1.cell? ⟨gz, 0, none⟩ = some (.bool b) := (blk_cell KZ.out 0).trans rfl; have kz1 : w1.cell? ⟨gz, 1, none⟩ = some (.slice A1 ss.length c1) := (blk_cell KZ.out 1).trans rfl; have kz2 : w1.cell? ⟨gz, 2, none⟩ = some (.slice A2 dd.length c2) := (blk_cell KZ.out 2).trans rfl; have ke0 : w1.cell? ⟨ge, 0, none⟩ = some (.int .i64 op) := (blk_cell KE.out 0).trans rfl; have ke1 : w1.cell? ⟨ge, 1, none⟩ = some (.int .i64 of) := (blk_cell KE.out 1).trans rfl; have ke2 : w1.cell? ⟨ge, 2, none⟩ = some (.int .i64 dir) := (blk_cell KE.out 2).trans rfl; have kd0 : w1.cell? ⟨gd, 0, none⟩ = some (.int .i64 0) := (blk_cell KD.out 0).trans rfl; have kd1 : w1.cell? ⟨gd, 1, none⟩ = some (.bool false) := (blk_cell KD.out 1).trans rfl; have kd2 : w1.cell? ⟨gd, 2, none⟩ = some (.slice none 0 0) := (blk_cell KD.out 2).trans rfl; have kd3 : w1.cell? ⟨gd, 3, none⟩ = some (.slice none 0 0) := (blk_cell KD.out 3).trans rfl; have zd0 := blk_frozen KD.out 0; have zd1 := blk_frozen KD.out 1; have zd2 := blk_frozen KD.out 2; have zd3 := blk_frozen KD.out 3) | (go_at_call 36; refine (ev_at op of dir hev (Kd.C_below HR.out BB.out) hc).mono ?_; rintro e w2 ⟨rfl, hb⟩; have KL := Aside0.mk (blk_below KL.out hb); have KZ := Aside0.mk (blk_below KZ.out hb); have KE := Aside0.mk (blk_below KE.out hb); have KD := Aside0.mk (blk_below KD.out hb); have BB := Aside0.mk (below_step BB.out hb); clear hb; have kl0 : w2.cell? ⟨gl, 0, none⟩ = some (.int .i64 n) := (blk_cell KL.out 0).trans rfl; have kl1 : w2.cell? ⟨gl, 1, none⟩ = some (.slice A l.length c) := (blk_cell KL.out 1).trans rfl; have kz0 : w2.cell? ⟨gz, 0, none⟩ = some (.bool b) := (blk_cell KZ.out 0).trans rfl; have kz1 : w2.cell? ⟨gz, 1, none⟩ = some (.slice A1 ss.length c1) := (blk_cell KZ.out 1).trans rfl; have kz2 : w2.cell? ⟨gz, 2, none⟩ = some (.slice A2 dd.length c2) := (blk_cell KZ.out 2).trans rfl; have ke0 : w2.cell? ⟨ge, 0, none⟩ = some (.int .i64 op) := (blk_cell KE.out 0).trans rfl; have ke1 : w2.cell? ⟨ge, 1, none⟩ = some (.int .i64 of) := (blk_cell KE.out 1).trans rfl; have ke2 : w2.cell? ⟨ge, 2, none⟩ = some (.int .i64 dir) := (blk_cell KE.out 2).trans rfl; have kd0 : w2.cell? ⟨gd, 0, none⟩ = some (.int .i64 0) := (blk_cell KD.out 0).trans rfl; have kd1 : w2.cell? ⟨gd, 1, none⟩ = some (.bool false) := (blk_cell KD.out 1).trans rfl; have kd2 : w2.cell? ⟨gd, 2, none⟩ = some (.slice none 0 0) := (blk_cell KD.out 2).trans rfl; have kd3 : w2.cell? ⟨gd, 3, none⟩ = some (.slice none 0 0) := (blk_cell KD.out 3).trans rfl; have zd0 := blk_frozen KD.out 0; have zd1 := blk_frozen KD.out 1; have zd2 := blk_frozen KD.out 2; have zd3 := blk_frozen KD.out 3))
  have KF := blk_put (blk_put (blk_put (blk_put KD.out 0 (.int .i64 1) rfl) 1 (.bool false) rfl) 2 (.slice none 0 0) rfl) 3 (.slice none 0 0) rfl
  have BF := below_set (j := 3) (v := .slice none 0 0) (below_set (j := 2) (v := .slice none 0 0) (below_set (j := 1) (v := .bool false) (below_set (j := 0) (v := .int .i64 1) BB.out GD.out) GD.out) GD.out) GD.out
  exact bodyPost_ret (results_cell_row rfl _ _ gd 48 _ (0, 0) _ rfl KF Try.underlying48 rfl (by kernel_rfl)) rfl ⟨rfl, BF⟩
set_option maxHeartbeats 4000000 in
set_option maxRecDepth 100000 in
theorem ido_good (n : Int) (A : Option Addr) (c : Nat) (l : List S88) (b : Bool) (A1 : Option Addr) (c1 : Nat) (ss : List S50) (A2 : Option Addr) (c2 : Nat) (dd : List Bool) (op of dir : Int) (w : World)
    (hr : Kd.C k88 w A l.length l) (hc : l.length ≤ c) (hr1 : Kd.C k50 w A1 ss.length ss) (hc1 : ss.length ≤ c1) (hr2 : Kd.C Kd.bool w A2 dd.length dd) (hc2 : dd.length ≤ c2) (hst : stateOk n l b ss dd = true) (hev : eventOk n l op of dir = true) :
    Calls Try.prog 70 #[.agg #[.int .i64 n, .slice A l.length c], .agg #[.bool b, .slice A1 ss.length c1, .slice A2 dd.length c2], .agg #[.int .i64 op, .int .i64 of, .int .i64 dir]] w fun e w' => ∃ v2_ v3_ : Value, e = .returned (.agg #[.int .i64 (doCode l ss dd op of), .bool true, v2_, v3_]) ∧ Kd.R k50 50 w' w.heap.size (fun _ => True) v2_ (doSecs l ss dd op of dir) ∧ Kd.R Kd.bool 4 w' w.heap.size (fun _ => True) v3_ (doDead l ss dd op of) ∧ Below w.heap.size w w' := by
  obtain ⟨hl, -, hns, hnd, -⟩ := stateOk_of hst
  have HL := Aside0.mk hl
  have HNS := Aside0.mk hns
  have HND := Aside0.mk hnd
  clear hl hns hnd
  have HR := Aside0.mk hr
  have HR1 := Aside0.mk hr1
  have HR2 := Aside0.mk hr2
  clear hr hr1 hr2
  go_enter Try.func70, Try.ntmps70
  go_upto_region 1 with (first | ((with_reducible refine gate_dst (N := 3) rfl ?_); refine box_event ?hg (N := 3) ?hd (cs := #[.int .i64 n, .slice A l.length c]) (t := 30) ?hr ?_; (case hd => rfl); (case hg => rfl); (case hr => first | (go_simp; done) | (go_simp; rfl)); intro gl el wl kl bl) | ((with_reducible refine gate_dst (N := 4) rfl ?_); refine box_event ?hg (N := 4) ?hd (cs := #[.bool b, .slice A1 ss.length c1, .slice A2 dd.length c2]) (t := 46) ?hr ?_; (case hd => rfl); (case hg => rfl); (case hr => first | (go_simp; done) | (go_simp; rfl)); intro gz ez wz kz bz) | ((with_reducible refine gate_dst (N := 5) rfl ?_); refine box_event ?hg (N := 5) ?hd (cs := #[.int .i64 op, .int .i64 of, .int .i64 dir]) (t := 56) ?hr ?_; (case hd => rfl); (case hg => rfl); (case hr => first | (go_simp; done) | (go_simp; rfl)); intro ge ee we ke be) | ((with_reducible refine gate_dst (N := 6) rfl ?_); refine box_event ?hg (N := 6) ?hd (cs := #[.int .i64 0, .bool false, .slice none 0 0, .slice none 0 0]) (t := 48) ?hr ?_; (case hd => rfl); (case hg => rfl); (case hr => first | (go_simp; done) | (go_simp; rfl)); intro gd ed wd kd_ bd))
  have KL := Aside0.mk (blk_below (blk_below (blk_below kl bz) be) bd)
  have KZ := Aside0.mk (blk_below (blk_below kz be) bd)
  have KE := Aside0.mk (blk_below ke bd)
  have KD := Aside0.mk kd_
  have BB := Aside0.mk (below_step (below_step (below_step bl bz) be) bd)
  have GL := Aside0.mk (show w.heap.size ≤ gl by rw [el]; exact Nat.le_refl _)
  have GZ := Aside0.mk (show w.heap.size ≤ gz by rw [ez]; exact bl.size)
  have GE := Aside0.mk (show w.heap.size ≤ ge by rw [ee]; exact (below_step bl bz).size)
  have GD := Aside0.mk (show w.heap.size ≤ gd by rw [ed]; exact (below_step (below_step bl bz) be).size)
  clear kl kz ke kd_ bl bz be bd el ez ee ed
  simp only [Act.put, List.setIfInBounds_toArray, List.set_cons_zero, List.set_cons_succ]
  have kl0 : wd.cell? ⟨gl, 0, none⟩ = some (.int .i64 n) := (blk_cell KL.out 0).trans rfl
  have kl1 : wd.cell? ⟨gl, 1, none⟩ = some (.slice A l.length c) := (blk_cell KL.out 1).trans rfl
  have kz0 : wd.cell? ⟨gz, 0, none⟩ = some (.bool b) := (blk_cell KZ.out 0).trans rfl
  have kz1 : wd.cell? ⟨gz, 1, none⟩ = some (.slice A1 ss.length c1) := (blk_cell KZ.out 1).trans rfl
  have kz2 : wd.cell? ⟨gz, 2, none⟩ = some (.slice A2 dd.length c2) := (blk_cell KZ.out 2).trans rfl
  have ke0 : wd.cell? ⟨ge, 0, none⟩ = some (.int .i64 op) := (blk_cell KE.out 0).trans rfl
  have ke1 : wd.cell? ⟨ge, 1, none⟩ = some (.int .i64 of) := (blk_cell KE.out 1).trans rfl
  have ke2 : wd.cell? ⟨ge, 2, none⟩ = some (.int .i64 dir) := (blk_cell KE.out 2).trans rfl
  have kd0 : wd.cell? ⟨gd, 0, none⟩ = some (.int .i64 0) := (blk_cell KD.out 0).trans rfl
  have kd1 : wd.cell? ⟨gd, 1, none⟩ = some (.bool false) := (blk_cell KD.out 1).trans rfl
  have kd2 : wd.cell? ⟨gd, 2, none⟩ = some (.slice none 0 0) := (blk_cell KD.out 2).trans rfl
  have kd3 : wd.cell? ⟨gd, 3, none⟩ = some (.slice none 0 0) := (blk_cell KD.out 3).trans rfl
  have zd0 := blk_frozen KD.out 0
  have zd1 := blk_frozen KD.out 1
  have zd2 := blk_frozen KD.out 2
  have zd3 := blk_frozen KD.out 3
  go_wp2_with (first | (go_at_call 32; refine (istA_at hst (Kd.C_below HR.out BB.out) hc (Kd.C_below HR1.out BB.out) hc1 (Kd.C_below HR2.out BB.out) hc2).mono ?_; rintro e w1 ⟨rfl, hb⟩; have KL := Aside0.mk (blk_below KL.out hb); have KZ := Aside0.mk (blk_below KZ.out hb); have KE := Aside0.mk (blk_below KE.out hb); have KD := Aside0.mk (blk_below KD.out hb); have BB := Aside0.mk (below_step BB.out hb); clear hb; have kl0 : w1.cell? ⟨gl, 0, none⟩ = some (.int .i64 n) := (blk_cell KL.out 0).trans rfl; have kl1 : w1.cell? ⟨gl, 1, none⟩ = some (.slice A l.length c) := (blk_cell KL.out 1).trans rfl; have kz0 : w1.cell? ⟨gz, 0, none⟩ = some (.bool b) := (blk_cell KZ.out 0).trans rfl; have kz1 : w1.cell? ⟨gz, 1, none⟩ = some (.slice A1 ss.length c1) := (blk_cell KZ.out 1).trans rfl; have kz2 : w1.cell? ⟨gz, 2, none⟩ = some (.slice A2 dd.length c2) := (blk_cell KZ.out 2).trans rfl; have ke0 : w1.cell? ⟨ge, 0, none⟩ = some (.int .i64 op) := (blk_cell KE.out 0).trans rfl; have ke1 : w1.cell? ⟨ge, 1, none⟩ = some (.int .i64 of) := (blk_cell KE.out 1).trans rfl; have ke2 : w1.cell? ⟨ge, 2, none⟩ = some (.int .i64 dir) := (blk_cell KE.out 2).trans rfl; have kd0 : w1.cell? ⟨gd, 0, none⟩ = some (.int .i64 0) := (blk_cell KD.out 0).trans rfl; have kd1 : w1.cell? ⟨gd, 1, none⟩ = some (.bool false) := (blk_cell KD.out 1).trans rfl; have kd2 : w1.cell? ⟨gd, 2, none⟩ = some (.slice none 0 0) := (blk_cell KD.out 2).trans rfl; have kd3 : w1.cell? ⟨gd, 3, none⟩ = some (.slice none 0 0) := (blk_cell KD.out 3).trans rfl; have zd0 := blk_frozen KD.out 0; have zd1 := blk_frozen KD.out 1; have zd2 := blk_frozen KD.out 2; have zd3 := blk_frozen KD.out 3) | (go_at_call 36; refine (ev_at op of dir hev (Kd.C_below HR.out BB.out) hc).mono ?_; rintro e w2 ⟨rfl, hb⟩; have KL := Aside0.mk (blk_below KL.out hb); have KZ := Aside0.mk (blk_below KZ.out hb); have KE := Aside0.mk (blk_below KE.out hb); have KD := Aside0.mk (blk_below KD.out hb); have BB := Aside0.mk (below_step BB.out hb); clear hb; have kl0 : w2.cell? ⟨gl, 0, none⟩ = some (.int .i64 n) := (blk_cell KL.out 0).trans rfl; have kl1 : w2.cell? ⟨gl, 1, none⟩ = some (.slice A l.length c) := (blk_cell KL.out 1).trans rfl; have kz0 : w2.cell? ⟨gz, 0, none⟩ = some (.bool b) := (blk_cell KZ.out 0).trans rfl; have kz1 : w2.cell? ⟨gz, 1, none⟩ = some (.slice A1 ss.length c1) := (blk_cell KZ.out 1).trans rfl; have kz2 : w2.cell? ⟨gz, 2, none⟩ = some (.slice A2 dd.length c2) := (blk_cell KZ.out 2).trans rfl; have ke0 : w2.cell? ⟨ge, 0, none⟩ = some (.int .i64 op) := (blk_cell KE.out 0).trans rfl; have ke1 : w2.cell? ⟨ge, 1, none⟩ = some (.int .i64 of) := (blk_cell KE.out 1).trans rfl; have ke2 : w2.cell? ⟨ge, 2, none⟩ = some (.int .i64 dir) := (blk_cell KE.out 2).trans rfl; have kd0 : w2.cell? ⟨gd, 0, none⟩ = some (.int .i64 0) := (blk_cell KD.out 0).trans rfl; have kd1 : w2.cell? ⟨gd, 1, none⟩ = some (.bool false) := (blk_cell KD.out 1).trans rfl; have kd2 : w2.cell? ⟨gd, 2, none⟩ = some (.slice none 0 0) := (blk_cell KD.out 2).trans rfl; have kd3 : w2.cell? ⟨gd, 3, none⟩ = some (.slice none 0 0) := (blk_cell KD.out 3).trans rfl; have zd0 := blk_frozen KD.out 0; have zd1 := blk_frozen KD.out 1; have zd2 := blk_frozen KD.out 2; have zd3 := blk_frozen KD.out 3) | (go_at_call 96; refine (do_is n A c l b A1 c1 ss A2 c2 dd op of dir _ (Kd.C_below HR.out BB.out) hc (Kd.C_below HR1.out BB.out) hc1 (Kd.C_below HR2.out BB.out) hc2 HL.out HNS.out HND.out hev).mono ?_; rintro e w3 ⟨v2, v3, rfl, ho2, ho3, hb⟩; obtain ⟨B2, e2, rfl⟩ := Kd.R_slice ho2; obtain ⟨B3, e3, rfl⟩ := Kd.R_slice ho3; have O2 := Aside0.mk (Kd.R_lower ho2 BB.out.size); have O3 := Aside0.mk (Kd.R_lower ho3 BB.out.size); clear ho2 ho3; have KL := Aside0.mk (blk_below KL.out hb); have KZ := Aside0.mk (blk_below KZ.out hb); have KE := Aside0.mk (blk_below KE.out hb); have KD := Aside0.mk (blk_below KD.out hb); have BB := Aside0.mk (below_step BB.out hb); clear hb; have kl0 : w3.cell? ⟨gl, 0, none⟩ = some (.int .i64 n) := (blk_cell KL.out 0).trans rfl; have kl1 : w3.cell? ⟨gl, 1, none⟩ = some (.slice A l.length c) := (blk_cell KL.out 1).trans rfl; have kz0 : w3.cell? ⟨gz, 0, none⟩ = some (.bool b) := (blk_cell KZ.out 0).trans rfl; have kz1 : w3.cell? ⟨gz, 1, none⟩ = some (.slice A1 ss.length c1) := (blk_cell KZ.out 1).trans rfl; have kz2 : w3.cell? ⟨gz, 2, none⟩ = some (.slice A2 dd.length c2) := (blk_cell KZ.out 2).trans rfl; have ke0 : w3.cell? ⟨ge, 0, none⟩ = some (.int .i64 op) := (blk_cell KE.out 0).trans rfl; have ke1 : w3.cell? ⟨ge, 1, none⟩ = some (.int .i64 of) := (blk_cell KE.out 1).trans rfl; have ke2 : w3.cell? ⟨ge, 2, none⟩ = some (.int .i64 dir) := (blk_cell KE.out 2).trans rfl; have kd0 : w3.cell? ⟨gd, 0, none⟩ = some (.int .i64 0) := (blk_cell KD.out 0).trans rfl; have kd1 : w3.cell? ⟨gd, 1, none⟩ = some (.bool false) := (blk_cell KD.out 1).trans rfl; have kd2 : w3.cell? ⟨gd, 2, none⟩ = some (.slice none 0 0) := (blk_cell KD.out 2).trans rfl; have kd3 : w3.cell? ⟨gd, 3, none⟩ = some (.slice none 0 0) := (blk_cell KD.out 3).trans rfl; have zd0 := blk_frozen KD.out 0; have zd1 := blk_frozen KD.out 1; have zd2 := blk_frozen KD.out 2; have zd3 := blk_frozen KD.out 3))
  have P0 := blk_put KD.out 0 (.int .i64 (doCode l ss dd op of)) rfl
  have P1 := blk_put P0 1 (.bool true) rfl
  have P2 := blk_put P1 2 (.slice B2 (doSecs l ss dd op of dir).length e2) rfl
  have KF := blk_put P2 3 (.slice B3 (doDead l ss dd op of).length e3) rfl
  have BF := below_set (j := 3) (v := .slice B3 (doDead l ss dd op of).length e3) (below_set (j := 2) (v := .slice B2 (doSecs l ss dd op of dir).length e2) (below_set (j := 1) (v := .bool true) (below_set (j := 0) (v := .int .i64 (doCode l ss dd op of)) BB.out GD.out) GD.out) GD.out) GD.out
  exact bodyPost_ret (results_cell_row rfl _ _ gd 48 _ (0, 0) _ rfl KF Try.underlying48 rfl (by kernel_rfl)) rfl ⟨_, _, rfl, Kd.R_set (Kd.R_set (Kd.R_set (Kd.R_set O2.out KD.out (by decide) 0 _) P0 (by decide) 1 _) P1 (by decide) 2 _) P2 (by decide) 3 _, Kd.R_set (Kd.R_set (Kd.R_set (Kd.R_set O3.out KD.out (by decide) 0 _) P0 (by decide) 1 _) P1 (by decide) 2 _) P2 (by decide) 3 _, BF⟩
def dDone (n : Int) (l : List S88) (b : Bool) (ss : List S50) (dd : List Bool) (op of dir : Int) : S48 :=
  if stateOk n l b ss dd = true ∧ eventOk n l op of dir = true then ⟨doCode l ss dd op of, ⟨true, doSecs l ss dd op of dir, doDead l ss dd op of⟩⟩ else ⟨1, ⟨false, [], []⟩⟩
theorem dDone_len (n : Int) (l : List S88) (b : Bool) (ss : List S50) (dd : List Bool) (op of dir : Int) : (dDone n l b ss dd op of dir).f1.f1.length ≤ ss.length ∧ (dDone n l b ss dd op of dir).f1.f2.length ≤ dd.length := by
  unfold dDone
  split
  · exact ⟨by rw [doSecs_length]; exact Nat.le_refl _, by rw [doDead_length]; exact Nat.le_refl _⟩
  · exact ⟨Nat.zero_le _, Nat.zero_le _⟩
theorem sdo_any (n : Int) (A : Option Addr) (c : Nat) (l : List S88) (b : Bool) (A1 : Option Addr) (c1 : Nat) (ss : List S50) (A2 : Option Addr) (c2 : Nat) (dd : List Bool) (op of dir : Int) (w : World)
    (hr : Kd.C k88 w A l.length l) (hc : l.length ≤ c) (hr1 : Kd.C k50 w A1 ss.length ss) (hc1 : ss.length ≤ c1) (hr2 : Kd.C Kd.bool w A2 dd.length dd) (hc2 : dd.length ≤ c2) {D : S48} (hD : D = dDone n l b ss dd op of dir) :
    Calls Try.prog 69 #[.agg #[.int .i64 n, .slice A l.length c], .agg #[.bool b, .slice A1 ss.length c1, .slice A2 dd.length c2], .agg #[.int .i64 op, .int .i64 of, .int .i64 dir]] w fun e w' => ∃ v2_ v3_ : Value, e = .returned (.agg #[.int .i64 D.f0, .bool D.f1.f0, v2_, v3_]) ∧ Kd.R k50 50 w' w.heap.size (fun _ => True) v2_ D.f1.f1 ∧ Kd.R Kd.bool 4 w' w.heap.size (fun _ => True) v3_ D.f1.f2 ∧ Below w.heap.size w w' := by
  subst hD
  cases hst : stateOk n l b ss dd with
  | false =>
    rw [show dDone n l b ss dd op of dir = ⟨1, ⟨false, [], []⟩⟩ by rw [dDone, if_neg (fun h => by rw [hst] at h; cases h.1)]]
    refine (sdo_badA n A c l b A1 c1 ss A2 c2 dd op of dir w hr hc hr1 hc1 hr2 hc2 hst).mono ?_
    rintro e w' ⟨rfl, hb⟩
    exact ⟨_, _, rfl, Kd.R_nil _ _ _ _ _, Kd.R_nil _ _ _ _ _, hb⟩
  | true =>
    cases hev : eventOk n l op of dir with
    | false =>
      rw [show dDone n l b ss dd op of dir = ⟨1, ⟨false, [], []⟩⟩ by rw [dDone, if_neg (fun h => by rw [hev] at h; cases h.2)]]
      refine (sdo_badE n A c l b A1 c1 ss A2 c2 dd op of dir w hr hc hr1 hc1 hr2 hc2 hst hev).mono ?_
      rintro e w' ⟨rfl, hb⟩
      exact ⟨_, _, rfl, Kd.R_nil _ _ _ _ _, Kd.R_nil _ _ _ _ _, hb⟩
    | true =>
      rw [show dDone n l b ss dd op of dir = ⟨doCode l ss dd op of, ⟨true, doSecs l ss dd op of dir, doDead l ss dd op of⟩⟩ by rw [dDone, if_pos ⟨hst, hev⟩]]
      exact sdo_is n A c l b A1 c1 ss A2 c2 dd op of dir w hr hc hr1 hc1 hr2 hc2 hst hev
theorem ido_any (n : Int) (A : Option Addr) (c : Nat) (l : List S88) (b : Bool) (A1 : Option Addr) (c1 : Nat) (ss : List S50) (A2 : Option Addr) (c2 : Nat) (dd : List Bool) (op of dir : Int) (w : World)
    (hr : Kd.C k88 w A l.length l) (hc : l.length ≤ c) (hr1 : Kd.C k50 w A1 ss.length ss) (hc1 : ss.length ≤ c1) (hr2 : Kd.C Kd.bool w A2 dd.length dd) (hc2 : dd.length ≤ c2) {D : S48} (hD : D = dDone n l b ss dd op of dir) :
    Calls Try.prog 70 #[.agg #[.int .i64 n, .slice A l.length c], .agg #[.bool b, .slice A1 ss.length c1, .slice A2 dd.length c2], .agg #[.int .i64 op, .int .i64 of, .int .i64 dir]] w fun e w' => ∃ v2_ v3_ : Value, e = .returned (.agg #[.int .i64 D.f0, .bool D.f1.f0, v2_, v3_]) ∧ Kd.R k50 50 w' w.heap.size (fun _ => True) v2_ D.f1.f1 ∧ Kd.R Kd.bool 4 w' w.heap.size (fun _ => True) v3_ D.f1.f2 ∧ Below w.heap.size w w' := by
  subst hD
  cases hst : stateOk n l b ss dd with
  | false =>
    rw [show dDone n l b ss dd op of dir = ⟨1, ⟨false, [], []⟩⟩ by rw [dDone, if_neg (fun h => by rw [hst] at h; cases h.1)]]
    refine (ido_badS n A c l b A1 c1 ss A2 c2 dd op of dir w hr hc hr1 hc1 hr2 hc2 hst).mono ?_
    rintro e w' ⟨rfl, hb⟩
    exact ⟨_, _, rfl, Kd.R_nil _ _ _ _ _, Kd.R_nil _ _ _ _ _, hb⟩
  | true =>
    cases hev : eventOk n l op of dir with
    | false =>
      rw [show dDone n l b ss dd op of dir = ⟨1, ⟨false, [], []⟩⟩ by rw [dDone, if_neg (fun h => by rw [hev] at h; cases h.2)]]
      refine (ido_badE n A c l b A1 c1 ss A2 c2 dd op of dir w hr hc hr1 hc1 hr2 hc2 hst hev).mono ?_
      rintro e w' ⟨rfl, hb⟩
      exact ⟨_, _, rfl, Kd.R_nil _ _ _ _ _, Kd.R_nil _ _ _ _ _, hb⟩
    | true =>
      rw [show dDone n l b ss dd op of dir = ⟨doCode l ss dd op of, ⟨true, doSecs l ss dd op of dir, doDead l ss dd op of⟩⟩ by rw [dDone, if_pos ⟨hst, hev⟩]]
      exact ido_good n A c l b A1 c1 ss A2 c2 dd op of dir w hr hc hr1 hc1 hr2 hc2 hst hev
end Go.Proofs.Ytpdnabhpkdchjaa.P
namespace Go.Proofs.Ytpdnabhpkdchjaa.P
open Go.RowKit Go.Proofs.YtpdnabhpkdchjaaW.PrintWords Go.Proofs.YtpdnabhpkdchjaaW.PrintLast Go.Proofs.YtpdnabhpkdchjaaW.PrintMore
attribute [local go_sem] max2_int min2_int max_two min_two max_three min_three max_four min_four
set_option linter.unusedVariables false
set_option linter.unusedSimpArgs false
def laws_szSectionS.f (l0:List (S169)) (a1:Int):Option (Int):=if (wrap64 (a1 - (l0.length:Int)))<0 then (some (-1)) else (some (wrap64 (a1 - (l0.length:Int))))
set_option maxHeartbeats 8000000 in
set_option maxRecDepth 100000 in
theorem laws_szSectionS.calls (A0:Option Addr) (c0:Nat) (l0:List (S169)) (a1:Int) (r:Int) (w:World) (hr0:Kd.C k169 w A0 l0.length l0) (hc0:l0.length≤c0) (h:laws_szSectionS.f l0 a1=some r) :
  Calls Try.prog 111 #[.slice A0 l0.length c0,.int .i64 a1] w fun e w'=>e=.returned (.int .i64 r)∧Drawn0 w w':=by
 have HR0:=Aside0.mk hr0
 have HC0:=Aside0.mk hc0
 clear hr0 hc0
 have H:(if (wrap64 (a1 - (l0.length:Int)))<0 then (some (-1)) else (some (wrap64 (a1 - (l0.length:Int)))))=some r:=h
 clear h
 by_cases c3:(wrap64 (a1 - (l0.length:Int)))<0
 ·rw [if_pos c3] at H
  have c3b0:decide ((wrap64 (a1 - (l0.length:Int)))<0)=true:=decide_eq_true c3
  clear c3
  obtain rfl:=Option.some.inj H
  go_enter Try.func111,Try.ntmps111
  go_wp2
  go_ret
  exact ⟨by first|rfl|(simp;done)|(simp [*];done),by repeat (first|exact Drawn0.refl _|apply Drawn0.step)⟩
 rw [if_neg c3] at H
 have c3b0:decide ((wrap64 (a1 - (l0.length:Int)))<0)=false:=decide_eq_false c3
 clear c3
 obtain rfl:=Option.some.inj H
 go_enter Try.func111,Try.ntmps111
 go_wp2
 go_ret
 exact ⟨by first|rfl|(simp;done)|(simp [*];done),by repeat (first|exact Drawn0.refl _|apply Drawn0.step)⟩
end Go.Proofs.Ytpdnabhpkdchjaa.P
namespace Go.Proofs.Ytpdnabhpkdchjaa.P
open Go.RowKit Go.Proofs.YtpdnabhpkdchjaaW.PrintWords Go.Proofs.YtpdnabhpkdchjaaW.PrintLast Go.Proofs.YtpdnabhpkdchjaaW.PrintMore
attribute [local go_sem] max2_int min2_int max_two min_two max_three min_three max_four min_four
set_option linter.unusedVariables false
set_option linter.unusedSimpArgs false
def laws_szBoolS.f (l0:List Bool) (a1:Int):Option (Int):=if (wrap64 (a1 - (l0.length:Int)))<0 then (some (-1)) else (some (wrap64 (a1 - (l0.length:Int))))
set_option maxHeartbeats 8000000 in
set_option maxRecDepth 100000 in
theorem laws_szBoolS.calls (A0:Option Addr) (c0:Nat) (l0:List Bool) (a1:Int) (r:Int) (w:World) (hr0:Kd.C Kd.bool w A0 l0.length l0) (hc0:l0.length≤c0) (h:laws_szBoolS.f l0 a1=some r) :
  Calls Try.prog 112 #[.slice A0 l0.length c0,.int .i64 a1] w fun e w'=>e=.returned (.int .i64 r)∧Drawn0 w w':=by
 have HR0:=Aside0.mk hr0
 have HC0:=Aside0.mk hc0
 clear hr0 hc0
 have H:(if (wrap64 (a1 - (l0.length:Int)))<0 then (some (-1)) else (some (wrap64 (a1 - (l0.length:Int)))))=some r:=h
 clear h
 by_cases c3:(wrap64 (a1 - (l0.length:Int)))<0
 ·rw [if_pos c3] at H
  have c3b0:decide ((wrap64 (a1 - (l0.length:Int)))<0)=true:=decide_eq_true c3
  clear c3
  obtain rfl:=Option.some.inj H
  go_enter Try.func112,Try.ntmps112
  go_wp2
  go_ret
  exact ⟨by first|rfl|(simp;done)|(simp [*];done),by repeat (first|exact Drawn0.refl _|apply Drawn0.step)⟩
 rw [if_neg c3] at H
 have c3b0:decide ((wrap64 (a1 - (l0.length:Int)))<0)=false:=decide_eq_false c3
 clear c3
 obtain rfl:=Option.some.inj H
 go_enter Try.func112,Try.ntmps112
 go_wp2
 go_ret
 exact ⟨by first|rfl|(simp;done)|(simp [*];done),by repeat (first|exact Drawn0.refl _|apply Drawn0.step)⟩
end Go.Proofs.Ytpdnabhpkdchjaa.P
namespace Go.Proofs.Ytpdnabhpkdchjaa.P
open Go.RowKit Go.Proofs.YtpdnabhpkdchjaaW.PrintWords Go.Proofs.YtpdnabhpkdchjaaW.PrintLast Go.Proofs.YtpdnabhpkdchjaaW.PrintMore
attribute [local go_sem] max2_int min2_int max_two min_two max_three min_three max_four min_four
set_option linter.unusedVariables false
set_option linter.unusedSimpArgs false
def laws_szState.f (a0_0:Bool) (l0_1:List (S169)) (l0_2:List Bool) (a1:Int):Option (Int):=(laws_szSectionS.f l0_1 a1).bind fun t726=>(if t726<0 then (some (-1)) else ((laws_szBoolS.f l0_2 t726).bind fun t727=>(if t727<0 then (some (-1)) else (some t727))))
set_option maxHeartbeats 8000000 in
set_option maxRecDepth 100000 in
theorem laws_szState.calls (a0_0:Bool) (A0_1:Option Addr) (c0_1:Nat) (l0_1:List (S169)) (A0_2:Option Addr) (c0_2:Nat) (l0_2:List Bool) (a1:Int) (r:Int) (w:World) (hr0_1:Kd.C k169 w A0_1 l0_1.length l0_1) (hc0_1:l0_1.length≤c0_1) (hr0_2:Kd.C Kd.bool w A0_2 l0_2.length l0_2) (hc0_2:l0_2.length≤c0_2) (h:laws_szState.f a0_0 l0_1 l0_2 a1=some r) :
  Calls Try.prog 55 #[.agg #[.bool a0_0,.slice A0_1 l0_1.length c0_1,.slice A0_2 l0_2.length c0_2],.int .i64 a1] w fun e w'=>e=.returned (.int .i64 r)∧Below w.heap.size w w':=by
 have hu77:=Try.underlying77
 have HR0_1:=Aside0.mk hr0_1
 have HC0_1:=Aside0.mk hc0_1
 clear hr0_1 hc0_1
 have HR0_2:=Aside0.mk hr0_2
 have HC0_2:=Aside0.mk hc0_2
 clear hr0_2 hc0_2
 have HB:=Aside0.mk (Below.refl w.heap.size w)
 have H:((laws_szSectionS.f l0_1 a1).bind fun t726=>(if t726<0 then (some (-1)) else ((laws_szBoolS.f l0_2 t726).bind fun t727=>(if t727<0 then (some (-1)) else (some t727)))))=some r:=h
 clear h
 replace H:=Option.bind_eq_some_iff.mp H
 obtain ⟨t726,A30,H⟩:=H
 replace H:(if t726<0 then (some (-1)) else ((laws_szBoolS.f l0_2 t726).bind fun t727=>(if t727<0 then (some (-1)) else (some t727))))=some r:=H
 have A3:=Aside0.mk A30
 clear A30
 by_cases c4:t726<0
 ·rw [if_pos c4] at H
  have c4b0:decide (t726<0)=true:=decide_eq_true c4
  clear c4
  obtain rfl:=Option.some.inj H
  go_enter Try.func55,Try.ntmps55
  go_wp2_with (first|((with_reducible refine gate_dst (N:=2) rfl ?_);refine box_event ?hg (N:=2) ?hd (cs:=#[.bool a0_0,.slice A0_1 l0_1.length c0_1,.slice A0_2 l0_2.length c0_2]) (t:=77) ?hr ?_;(case hd=>rfl);(case hg=>rfl);(case hr=>first|(go_simp;done)|(go_simp;rfl));intro gb725 hg w5 hbox hb;have n0_:=Aside0.mk (below_step (by repeat (first|(with_reducible first|exact HB.out|apply below_alloc|apply pw_below_drewN|apply below_drew1)|exact HB.out)) hb);have n1_:=Aside0.mk (hbox);have n2_:=Aside0.mk ((by rw [hg];exact (below_size (by repeat (first|(with_reducible first|exact HB.out|apply below_alloc|apply pw_below_drewN|apply below_drew1)|exact HB.out))):w.heap.size≤gb725));have n3_:=Aside0.mk ((by rw [hg];exact (below_size (by repeat (first|(with_reducible first|exact HB.out|apply below_alloc|apply pw_below_drewN|apply below_drew1)|exact HB.out))):w.heap.size≤gb725));clear HB;have HB:=n0_;have BK725:=n1_;have GW725:=n2_;have GE725:=n3_;clear n0_ n1_ n2_ n3_;clear hb hbox hg;have hcz6_0:w5.cell? ⟨gb725,0,none⟩=some (.bool a0_0):=(blk_cell BK725.out 0).trans rfl;have hcz6_1:w5.cell? ⟨gb725,1,none⟩=some (.slice A0_1 l0_1.length c0_1):=(blk_cell BK725.out 1).trans rfl;have hcz6_2:w5.cell? ⟨gb725,2,none⟩=some (.slice A0_2 l0_2.length c0_2):=(blk_cell BK725.out 2).trans rfl;have hfz6_0:=blk_frozen BK725.out 0;have hfz6_1:=blk_frozen BK725.out 1;have hfz6_2:=blk_frozen BK725.out 2)|((with_reducible refine gate_callee (f:=111) rfl ?_);refine goesL_ (some 8) rfl rfl Try.func111 (by kernel_rfl) rfl #[.slice A0_1 l0_1.length c0_1,.int .i64 a1] rfl (by (try simp only [List.map_toArray,List.map_cons,List.map_nil]);first|done|rfl|(simp only [List.length_drop,List.length_take];rfl)) ?_;(with_reducible refine (laws_szSectionS.calls _ _ l0_1 a1 t726 _ ?side1 ?side2 A3.out).mono ?_);(case side1=>repeat (first|exact (Kd.C_below HR0_1.out HB.out)|(with_reducible refine Kd.C_alloc ?_ _)|(with_reducible refine Kd.C_drewN ?_ _)|(with_reducible refine Kd.C_drew ?_)));(case side2=>exact HC0_1.out);rintro e w' ⟨rfl,⟨nd,rfl⟩⟩;refine ⟨_,rfl,?_⟩))
  go_ret
  exact ⟨by first|rfl|(simp [errW_none,errW_some] <;> rfl)|(simp [*,errW_none,errW_some] <;> rfl),by repeat (first|(with_reducible first|exact HB.out|apply below_alloc|apply pw_below_drewN|apply below_drew1|refine below_set ?_ GE725.out)|exact HB.out)⟩
 rw [if_neg c4] at H
 have c4b0:decide (t726<0)=false:=decide_eq_false c4
 clear c4
 replace H:=Option.bind_eq_some_iff.mp H
 obtain ⟨t727,A70,H⟩:=H
 replace H:(if t727<0 then (some (-1)) else (some t727))=some r:=H
 have A7:=Aside0.mk A70
 clear A70
 by_cases c8:t727<0
 ·rw [if_pos c8] at H
  have c8b0:decide (t727<0)=true:=decide_eq_true c8
  clear c8
  obtain rfl:=Option.some.inj H
  go_enter Try.func55,Try.ntmps55
  go_wp2_with (first|((with_reducible refine gate_dst (N:=2) rfl ?_);refine box_event ?hg (N:=2) ?hd (cs:=#[.bool a0_0,.slice A0_1 l0_1.length c0_1,.slice A0_2 l0_2.length c0_2]) (t:=77) ?hr ?_;(case hd=>rfl);(case hg=>rfl);(case hr=>first|(go_simp;done)|(go_simp;rfl));intro gb725 hg w9 hbox hb;have n0_:=Aside0.mk (below_step (by repeat (first|(with_reducible first|exact HB.out|apply below_alloc|apply pw_below_drewN|apply below_drew1)|exact HB.out)) hb);have n1_:=Aside0.mk (hbox);have n2_:=Aside0.mk ((by rw [hg];exact (below_size (by repeat (first|(with_reducible first|exact HB.out|apply below_alloc|apply pw_below_drewN|apply below_drew1)|exact HB.out))):w.heap.size≤gb725));have n3_:=Aside0.mk ((by rw [hg];exact (below_size (by repeat (first|(with_reducible first|exact HB.out|apply below_alloc|apply pw_below_drewN|apply below_drew1)|exact HB.out))):w.heap.size≤gb725));clear HB;have HB:=n0_;have BK725:=n1_;have GW725:=n2_;have GE725:=n3_;clear n0_ n1_ n2_ n3_;clear hb hbox hg;have hcz10_0:w9.cell? ⟨gb725,0,none⟩=some (.bool a0_0):=(blk_cell BK725.out 0).trans rfl;have hcz10_1:w9.cell? ⟨gb725,1,none⟩=some (.slice A0_1 l0_1.length c0_1):=(blk_cell BK725.out 1).trans rfl;have hcz10_2:w9.cell? ⟨gb725,2,none⟩=some (.slice A0_2 l0_2.length c0_2):=(blk_cell BK725.out 2).trans rfl;have hfz10_0:=blk_frozen BK725.out 0;have hfz10_1:=blk_frozen BK725.out 1;have hfz10_2:=blk_frozen BK725.out 2)|((with_reducible refine gate_callee (f:=111) rfl ?_);refine goesL_ (some 8) rfl rfl Try.func111 (by kernel_rfl) rfl #[.slice A0_1 l0_1.length c0_1,.int .i64 a1] rfl (by (try simp only [List.map_toArray,List.map_cons,List.map_nil]);first|done|rfl|(simp only [List.length_drop,List.length_take];rfl)) ?_;(with_reducible refine (laws_szSectionS.calls _ _ l0_1 a1 t726 _ ?side1 ?side2 A3.out).mono ?_);(case side1=>repeat (first|exact (Kd.C_below HR0_1.out HB.out)|(with_reducible refine Kd.C_alloc ?_ _)|(with_reducible refine Kd.C_drewN ?_ _)|(with_reducible refine Kd.C_drew ?_)));(case side2=>exact HC0_1.out);rintro e w' ⟨rfl,⟨nd,rfl⟩⟩;refine ⟨_,rfl,?_⟩)|((with_reducible refine gate_callee (f:=112) rfl ?_);refine goesL_ (some 14) rfl rfl Try.func112 (by kernel_rfl) rfl #[.slice A0_2 l0_2.length c0_2,.int .i64 t726] rfl (by (try simp only [List.map_toArray,List.map_cons,List.map_nil]);first|done|rfl|(simp only [List.length_drop,List.length_take];rfl)) ?_;(with_reducible refine (laws_szBoolS.calls _ _ l0_2 t726 t727 _ ?side1 ?side2 A7.out).mono ?_);(case side1=>repeat (first|exact (Kd.C_below HR0_2.out (by repeat (first|(with_reducible first|exact HB.out|apply below_alloc|apply pw_below_drewN|apply below_drew1|refine below_set ?_ GE725.out)|exact HB.out)))|(with_reducible refine Kd.C_alloc ?_ _)|(with_reducible refine Kd.C_drewN ?_ _)|(with_reducible refine Kd.C_drew ?_)));(case side2=>exact HC0_2.out);rintro e w' ⟨rfl,⟨nd,rfl⟩⟩;refine ⟨_,rfl,?_⟩))
  go_ret
  exact ⟨by first|rfl|(simp [errW_none,errW_some] <;> rfl)|(simp [*,errW_none,errW_some] <;> rfl),by repeat (first|(with_reducible first|exact HB.out|apply below_alloc|apply pw_below_drewN|apply below_drew1|refine below_set ?_ GE725.out)|exact HB.out)⟩
 rw [if_neg c8] at H
 have c8b0:decide (t727<0)=false:=decide_eq_false c8
 clear c8
 obtain rfl:=Option.some.inj H
 go_enter Try.func55,Try.ntmps55
 go_wp2_with (first|((with_reducible refine gate_dst (N:=2) rfl ?_);refine box_event ?hg (N:=2) ?hd (cs:=#[.bool a0_0,.slice A0_1 l0_1.length c0_1,.slice A0_2 l0_2.length c0_2]) (t:=77) ?hr ?_;(case hd=>rfl);(case hg=>rfl);(case hr=>first|(go_simp;done)|(go_simp;rfl));intro gb725 hg w11 hbox hb;have n0_:=Aside0.mk (below_step (by repeat (first|(with_reducible first|exact HB.out|apply below_alloc|apply pw_below_drewN|apply below_drew1)|exact HB.out)) hb);have n1_:=Aside0.mk (hbox);have n2_:=Aside0.mk ((by rw [hg];exact (below_size (by repeat (first|(with_reducible first|exact HB.out|apply below_alloc|apply pw_below_drewN|apply below_drew1)|exact HB.out))):w.heap.size≤gb725));have n3_:=Aside0.mk ((by rw [hg];exact (below_size (by repeat (first|(with_reducible first|exact HB.out|apply below_alloc|apply pw_below_drewN|apply below_drew1)|exact HB.out))):w.heap.size≤gb725));clear HB;have HB:=n0_;have BK725:=n1_;have GW725:=n2_;have GE725:=n3_;clear n0_ n1_ n2_ n3_;clear hb hbox hg;have hcz12_0:w11.cell? ⟨gb725,0,none⟩=some (.bool a0_0):=(blk_cell BK725.out 0).trans rfl;have hcz12_1:w11.cell? ⟨gb725,1,none⟩=some (.slice A0_1 l0_1.length c0_1):=(blk_cell BK725.out 1).trans rfl;have hcz12_2:w11.cell? ⟨gb725,2,none⟩=some (.slice A0_2 l0_2.length c0_2):=(blk_cell BK725.out 2).trans rfl;have hfz12_0:=blk_frozen BK725.out 0;have hfz12_1:=blk_frozen BK725.out 1;have hfz12_2:=blk_frozen BK725.out 2)|((with_reducible refine gate_callee (f:=111) rfl ?_);refine goesL_ (some 8) rfl rfl Try.func111 (by kernel_rfl) rfl #[.slice A0_1 l0_1.length c0_1,.int .i64 a1] rfl (by (try simp only [List.map_toArray,List.map_cons,List.map_nil]);first|done|rfl|(simp only [List.length_drop,List.length_take];rfl)) ?_;(with_reducible refine (laws_szSectionS.calls _ _ l0_1 a1 t726 _ ?side1 ?side2 A3.out).mono ?_);(case side1=>repeat (first|exact (Kd.C_below HR0_1.out HB.out)|(with_reducible refine Kd.C_alloc ?_ _)|(with_reducible refine Kd.C_drewN ?_ _)|(with_reducible refine Kd.C_drew ?_)));(case side2=>exact HC0_1.out);rintro e w' ⟨rfl,⟨nd,rfl⟩⟩;refine ⟨_,rfl,?_⟩)|((with_reducible refine gate_callee (f:=112) rfl ?_);refine goesL_ (some 14) rfl rfl Try.func112 (by kernel_rfl) rfl #[.slice A0_2 l0_2.length c0_2,.int .i64 t726] rfl (by (try simp only [List.map_toArray,List.map_cons,List.map_nil]);first|done|rfl|(simp only [List.length_drop,List.length_take];rfl)) ?_;(with_reducible refine (laws_szBoolS.calls _ _ l0_2 t726 t727 _ ?side1 ?side2 A7.out).mono ?_);(case side1=>repeat (first|exact (Kd.C_below HR0_2.out (by repeat (first|(with_reducible first|exact HB.out|apply below_alloc|apply pw_below_drewN|apply below_drew1|refine below_set ?_ GE725.out)|exact HB.out)))|(with_reducible refine Kd.C_alloc ?_ _)|(with_reducible refine Kd.C_drewN ?_ _)|(with_reducible refine Kd.C_drew ?_)));(case side2=>exact HC0_2.out);rintro e w' ⟨rfl,⟨nd,rfl⟩⟩;refine ⟨_,rfl,?_⟩))
 go_ret
 exact ⟨by first|rfl|(simp [errW_none,errW_some] <;> rfl)|(simp [*,errW_none,errW_some] <;> rfl),by repeat (first|(with_reducible first|exact HB.out|apply below_alloc|apply pw_below_drewN|apply below_drew1|refine below_set ?_ GE725.out)|exact HB.out)⟩
end Go.Proofs.Ytpdnabhpkdchjaa.P
namespace Go.Proofs.Ytpdnabhpkdchjaa.P
open Go.RowKit Go.Proofs.YtpdnabhpkdchjaaW.PrintWords Go.Proofs.YtpdnabhpkdchjaaW.PrintLast Go.Proofs.YtpdnabhpkdchjaaW.PrintMore
attribute [local go_sem] max2_int min2_int max_two min_two max_three min_three max_four min_four
set_option linter.unusedVariables false
set_option linter.unusedSimpArgs false
def laws_toSection.f (a0_0:Int) (a0_1:Int) (a0_2:Bool) (a0_3:Bool) (a0_4:Int):Option (Int × Int × Bool × Bool × Int):=some (a0_0,a0_1,a0_2,a0_3,a0_4)
set_option maxHeartbeats 8000000 in
set_option maxRecDepth 100000 in
theorem laws_toSection.calls (a0_0:Int) (a0_1:Int) (a0_2:Bool) (a0_3:Bool) (a0_4:Int) (r1:Int) (r2:Int) (r3:Bool) (r4:Bool) (r5:Int) (w:World) (h:laws_toSection.f a0_0 a0_1 a0_2 a0_3 a0_4=some (r1,r2,r3,r4,r5)) :
  Calls Try.prog 134 #[.agg #[.int .i64 a0_0,.int .i64 a0_1,.bool a0_2,.bool a0_3,.int .i64 a0_4]] w fun e w'=>e=.returned (.agg #[.int .i64 r1,.int .i64 r2,.bool r3,.bool r4,.int .i64 r5])∧Below w.heap.size w w':=by
 have hu169:=Try.underlying169
 have hu50:=Try.underlying50
 have HB:=Aside0.mk (Below.refl w.heap.size w)
 have H:(some (a0_0,a0_1,a0_2,a0_3,a0_4))=some (r1,r2,r3,r4,r5):=h
 clear h
 simp only [Option.some.injEq,Prod.mk.injEq] at H
 obtain ⟨rfl,rfl,rfl,rfl,rfl⟩:=H
 go_enter Try.func134,Try.ntmps134
 go_wp2_with (first|((with_reducible refine gate_dst (N:=1) rfl ?_);refine box_event ?hg (N:=1) ?hd (cs:=#[.int .i64 a0_0,.int .i64 a0_1,.bool a0_2,.bool a0_3,.int .i64 a0_4]) (t:=169) ?hr ?_;(case hd=>rfl);(case hg=>rfl);(case hr=>first|(go_simp;done)|(go_simp;rfl));intro gb728 hg w2 hbox hb;have n0_:=Aside0.mk (below_step (by repeat (first|(with_reducible first|exact HB.out|apply below_alloc|apply pw_below_drewN|apply below_drew1)|exact HB.out)) hb);have n1_:=Aside0.mk (hbox);have n2_:=Aside0.mk ((by rw [hg];exact (below_size (by repeat (first|(with_reducible first|exact HB.out|apply below_alloc|apply pw_below_drewN|apply below_drew1)|exact HB.out))):w.heap.size≤gb728));have n3_:=Aside0.mk ((by rw [hg];exact (below_size (by repeat (first|(with_reducible first|exact HB.out|apply below_alloc|apply pw_below_drewN|apply below_drew1)|exact HB.out))):w.heap.size≤gb728));clear HB;have HB:=n0_;have BK728:=n1_;have GW728:=n2_;have GE728:=n3_;clear n0_ n1_ n2_ n3_;clear hb hbox hg)|((with_reducible refine gate_dst (N:=2) rfl ?_);refine box_event ?hg (N:=2) ?hd (cs:=#[.int .i64 0,.int .i64 0,.bool false,.bool false,.int .i64 0]) (t:=50) ?hr ?_;(case hd=>rfl);(case hg=>rfl);(case hr=>first|(go_simp;done)|(go_simp;rfl));intro gb729 hg w3 hbox hb;have n0_:=Aside0.mk (blk_below (g:=gb728) (o:=.cells #[.int .i64 a0_0,.int .i64 a0_1,.bool a0_2,.bool a0_3,.int .i64 a0_4] 169 (0,0)) (by (with_reducible repeat (first|refine blk_drewN ?_ _|refine blk_drew ?_|refine blk_alloc ?_ _));exact BK728.out) hb);have n1_:=Aside0.mk (below_step (by repeat (first|(with_reducible first|exact HB.out|apply below_alloc|apply pw_below_drewN|apply below_drew1|refine below_set ?_ GE728.out)|exact HB.out)) hb);have n2_:=Aside0.mk (hbox);have n3_:=Aside0.mk ((by rw [hg];exact (below_size (by repeat (first|(with_reducible first|exact HB.out|apply below_alloc|apply pw_below_drewN|apply below_drew1|refine below_set ?_ GE728.out)|exact HB.out))):w.heap.size≤gb729));have n4_:=Aside0.mk ((by rw [hg];exact (below_size (by repeat (first|(with_reducible first|exact HB.out|apply below_alloc|apply pw_below_drewN|apply below_drew1|refine below_set ?_ GE728.out)|exact HB.out))):w.heap.size≤gb729));have n5_:=Aside0.mk ((by rw [hg];exact Nat.ne_of_lt (blk_lt (g:=gb728) (o:=.cells #[.int .i64 a0_0,.int .i64 a0_1,.bool a0_2,.bool a0_3,.int .i64 a0_4] 169 (0,0)) (by (with_reducible repeat (first|refine blk_drewN ?_ _|refine blk_drew ?_|refine blk_alloc ?_ _));exact BK728.out)):gb728 ≠ gb729));have n6_:=Aside0.mk ((by rw [hg];exact Nat.ne_of_gt (blk_lt (g:=gb728) (o:=.cells #[.int .i64 a0_0,.int .i64 a0_1,.bool a0_2,.bool a0_3,.int .i64 a0_4] 169 (0,0)) (by (with_reducible repeat (first|refine blk_drewN ?_ _|refine blk_drew ?_|refine blk_alloc ?_ _));exact BK728.out)):gb729 ≠ gb728));clear BK728;clear HB;have BK728:=n0_;have HB:=n1_;have BK729:=n2_;have GW729:=n3_;have GE729:=n4_;have NB728_729:=n5_;have NB729_728:=n6_;clear n0_ n1_ n2_ n3_ n4_ n5_ n6_;clear hb hbox hg)|((with_reducible refine gate_dst (N:=3) rfl ?_);refine box_event ?hg (N:=3) ?hd (cs:=#[.int .i64 0,.int .i64 0,.bool false,.bool false,.int .i64 0]) (t:=50) ?hr ?_;(case hd=>rfl);(case hg=>rfl);(case hr=>first|(go_simp;done)|(go_simp;rfl));intro gb730 hg w4 hbox hb;have n0_:=Aside0.mk (blk_below (g:=gb728) (o:=.cells #[.int .i64 a0_0,.int .i64 a0_1,.bool a0_2,.bool a0_3,.int .i64 a0_4] 169 (0,0)) (by (with_reducible repeat (first|refine blk_drewN ?_ _|refine blk_drew ?_|refine blk_alloc ?_ _));exact BK728.out) hb);have n1_:=Aside0.mk (blk_below (g:=gb729) (o:=.cells #[.int .i64 0,.int .i64 0,.bool false,.bool false,.int .i64 0] 50 (0,0)) (by (with_reducible repeat (first|refine blk_drewN ?_ _|refine blk_drew ?_|refine blk_alloc ?_ _));exact BK729.out) hb);have n2_:=Aside0.mk (below_step (by repeat (first|(with_reducible first|exact HB.out|apply below_alloc|apply pw_below_drewN|apply below_drew1|refine below_set ?_ GE728.out|refine below_set ?_ GE729.out)|exact HB.out)) hb);have n3_:=Aside0.mk (hbox);have n4_:=Aside0.mk ((by rw [hg];exact (below_size (by repeat (first|(with_reducible first|exact HB.out|apply below_alloc|apply pw_below_drewN|apply below_drew1|refine below_set ?_ GE728.out|refine below_set ?_ GE729.out)|exact HB.out))):w.heap.size≤gb730));have n5_:=Aside0.mk ((by rw [hg];exact (below_size (by repeat (first|(with_reducible first|exact HB.out|apply below_alloc|apply pw_below_drewN|apply below_drew1|refine below_set ?_ GE728.out|refine below_set ?_ GE729.out)|exact HB.out))):w.heap.size≤gb730));have n6_:=Aside0.mk ((by rw [hg];exact Nat.ne_of_lt (blk_lt (g:=gb728) (o:=.cells #[.int .i64 a0_0,.int .i64 a0_1,.bool a0_2,.bool a0_3,.int .i64 a0_4] 169 (0,0)) (by (with_reducible repeat (first|refine blk_drewN ?_ _|refine blk_drew ?_|refine blk_alloc ?_ _));exact BK728.out)):gb728 ≠ gb730));have n7_:=Aside0.mk ((by rw [hg];exact Nat.ne_of_gt (blk_lt (g:=gb728) (o:=.cells #[.int .i64 a0_0,.int .i64 a0_1,.bool a0_2,.bool a0_3,.int .i64 a0_4] 169 (0,0)) (by (with_reducible repeat (first|refine blk_drewN ?_ _|refine blk_drew ?_|refine blk_alloc ?_ _));exact BK728.out)):gb730 ≠ gb728));have n8_:=Aside0.mk ((by rw [hg];exact Nat.ne_of_lt (blk_lt (g:=gb729) (o:=.cells #[.int .i64 0,.int .i64 0,.bool false,.bool false,.int .i64 0] 50 (0,0)) (by (with_reducible repeat (first|refine blk_drewN ?_ _|refine blk_drew ?_|refine blk_alloc ?_ _));exact BK729.out)):gb729 ≠ gb730));have n9_:=Aside0.mk ((by rw [hg];exact Nat.ne_of_gt (blk_lt (g:=gb729) (o:=.cells #[.int .i64 0,.int .i64 0,.bool false,.bool false,.int .i64 0] 50 (0,0)) (by (with_reducible repeat (first|refine blk_drewN ?_ _|refine blk_drew ?_|refine blk_alloc ?_ _));exact BK729.out)):gb730 ≠ gb729));clear BK728;clear BK729;clear HB;have BK728:=n0_;have BK729:=n1_;have HB:=n2_;have BK730:=n3_;have GW730:=n4_;have GE730:=n5_;have NB728_730:=n6_;have NB730_728:=n7_;have NB729_730:=n8_;have NB730_729:=n9_;clear n0_ n1_ n2_ n3_ n4_ n5_ n6_ n7_ n8_ n9_;clear hb hbox hg;have hnb5:=NB728_729.out;have hnc5:=NB729_728.out;have hnb6:=NB728_730.out;have hnc6:=NB730_728.out;have hcz7_0:w4.cell? ⟨gb728,0,none⟩=some (.int .i64 a0_0):=(blk_cell BK728.out 0).trans rfl;have hcz7_1:w4.cell? ⟨gb728,1,none⟩=some (.int .i64 a0_1):=(blk_cell BK728.out 1).trans rfl;have hcz7_2:w4.cell? ⟨gb728,2,none⟩=some (.bool a0_2):=(blk_cell BK728.out 2).trans rfl;have hcz7_3:w4.cell? ⟨gb728,3,none⟩=some (.bool a0_3):=(blk_cell BK728.out 3).trans rfl;have hcz7_4:w4.cell? ⟨gb728,4,none⟩=some (.int .i64 a0_4):=(blk_cell BK728.out 4).trans rfl;have hfz7_0:=blk_frozen BK728.out 0;have hfz7_1:=blk_frozen BK728.out 1;have hfz7_2:=blk_frozen BK728.out 2;have hfz7_3:=blk_frozen BK728.out 3;have hfz7_4:=blk_frozen BK728.out 4;have hnb8:=NB730_729.out;have hnc8:=NB729_730.out;have hcz9_0:w4.cell? ⟨gb730,0,none⟩=some (.int .i64 0):=(blk_cell BK730.out 0).trans rfl;have hcz9_1:w4.cell? ⟨gb730,1,none⟩=some (.int .i64 0):=(blk_cell BK730.out 1).trans rfl;have hcz9_2:w4.cell? ⟨gb730,2,none⟩=some (.bool false):=(blk_cell BK730.out 2).trans rfl;have hcz9_3:w4.cell? ⟨gb730,3,none⟩=some (.bool false):=(blk_cell BK730.out 3).trans rfl;have hcz9_4:w4.cell? ⟨gb730,4,none⟩=some (.int .i64 0):=(blk_cell BK730.out 4).trans rfl;have hfz9_0:=blk_frozen BK730.out 0;have hfz9_1:=blk_frozen BK730.out 1;have hfz9_2:=blk_frozen BK730.out 2;have hfz9_3:=blk_frozen BK730.out 3;have hfz9_4:=blk_frozen BK730.out 4;have hcz10_0:w4.cell? ⟨gb729,0,none⟩=some (.int .i64 0):=(blk_cell BK729.out 0).trans rfl;have hcz10_1:w4.cell? ⟨gb729,1,none⟩=some (.int .i64 0):=(blk_cell BK729.out 1).trans rfl;have hcz10_2:w4.cell? ⟨gb729,2,none⟩=some (.bool false):=(blk_cell BK729.out 2).trans rfl;have hcz10_3:w4.cell? ⟨gb729,3,none⟩=some (.bool false):=(blk_cell BK729.out 3).trans rfl;have hcz10_4:w4.cell? ⟨gb729,4,none⟩=some (.int .i64 0):=(blk_cell BK729.out 4).trans rfl;have hfz10_0:=blk_frozen BK729.out 0;have hfz10_1:=blk_frozen BK729.out 1;have hfz10_2:=blk_frozen BK729.out 2;have hfz10_3:=blk_frozen BK729.out 3;have hfz10_4:=blk_frozen BK729.out 4))
 refine bodyPost_ret (results_cell_row rfl _ _ gb729 50 #[.int .i64 a0_0,.int .i64 a0_1,.bool a0_2,.bool a0_3,.int .i64 a0_4] (0,0) _ rfl (by (with_reducible repeat (first|refine blk_drewN ?_ _|refine blk_drew ?_|refine blk_alloc ?_ _));refine blk_put (cs:=#[.int .i64 a0_0,.int .i64 a0_1,.bool a0_2,.bool a0_3,.int .i64 0]) ?_ 4 _ rfl;(with_reducible repeat (first|refine blk_drewN ?_ _|refine blk_drew ?_|refine blk_alloc ?_ _));refine blk_put (cs:=#[.int .i64 a0_0,.int .i64 a0_1,.bool a0_2,.bool false,.int .i64 0]) ?_ 3 _ rfl;(with_reducible repeat (first|refine blk_drewN ?_ _|refine blk_drew ?_|refine blk_alloc ?_ _));refine blk_put (cs:=#[.int .i64 a0_0,.int .i64 a0_1,.bool false,.bool false,.int .i64 0]) ?_ 2 _ rfl;(with_reducible repeat (first|refine blk_drewN ?_ _|refine blk_drew ?_|refine blk_alloc ?_ _));refine blk_put (cs:=#[.int .i64 a0_0,.int .i64 0,.bool false,.bool false,.int .i64 0]) ?_ 1 _ rfl;(with_reducible repeat (first|refine blk_drewN ?_ _|refine blk_drew ?_|refine blk_alloc ?_ _));refine blk_put (cs:=#[.int .i64 0,.int .i64 0,.bool false,.bool false,.int .i64 0]) ?_ 0 _ rfl;(with_reducible repeat (first|refine blk_drewN ?_ _|refine blk_drew ?_|refine blk_alloc ?_ _));refine blk_far ?_ NB729_730.out _;(with_reducible repeat (first|refine blk_drewN ?_ _|refine blk_drew ?_|refine blk_alloc ?_ _));refine blk_far ?_ NB729_730.out _;(with_reducible repeat (first|refine blk_drewN ?_ _|refine blk_drew ?_|refine blk_alloc ?_ _));refine blk_far ?_ NB729_730.out _;(with_reducible repeat (first|refine blk_drewN ?_ _|refine blk_drew ?_|refine blk_alloc ?_ _));refine blk_far ?_ NB729_730.out _;(with_reducible repeat (first|refine blk_drewN ?_ _|refine blk_drew ?_|refine blk_alloc ?_ _));refine blk_far ?_ NB729_730.out _;(with_reducible repeat (first|refine blk_drewN ?_ _|refine blk_drew ?_|refine blk_alloc ?_ _));exact BK729.out) Try.underlying50 rfl (by kernel_rfl)) rfl ?_
 exact ⟨by first|rfl|(simp [errW_none,errW_some] <;> rfl)|(simp [*,errW_none,errW_some] <;> rfl),by repeat (first|(with_reducible first|exact HB.out|apply below_alloc|apply pw_below_drewN|apply below_drew1|refine below_set ?_ GE728.out|refine below_set ?_ GE729.out|refine below_set ?_ GE730.out)|exact HB.out)⟩
end Go.Proofs.Ytpdnabhpkdchjaa.P
namespace Go.Proofs.Ytpdnabhpkdchjaa.P
open Go.RowKit Go.Proofs.YtpdnabhpkdchjaaW.PrintWords Go.Proofs.YtpdnabhpkdchjaaW.PrintLast Go.Proofs.YtpdnabhpkdchjaaW.PrintMore
attribute [local go_sem] max2_int min2_int max_two min_two max_three min_three max_four min_four
set_option linter.unusedVariables false
set_option linter.unusedSimpArgs false
def laws_toSectionS.l0:Nat→List (S169)→List (S50)→Int→Option ((List (S50)))
 | 0,_,_,_=>none
 | k+1,x0,x3,x4=>if x4<(x0.length:Int) then (if 0≤x4 then ((laws_toSection.f ((rd_T169 x0 x4).f0) ((rd_T169 x0 x4).f1) ((rd_T169 x0 x4).f2) ((rd_T169 x0 x4).f3) ((rd_T169 x0 x4).f4)).bind fun bt735=>(if x4<(x3.length:Int) then (laws_toSectionS.l0 k x0 (x3.set (x4:Int).toNat (⟨bt735.1,bt735.2.1,bt735.2.2.1,bt735.2.2.2.1,bt735.2.2.2.2⟩:S50)) (wrap64 (x4+1))) else (none))) else (none)) else (some x3)
def laws_toSectionS.f (k:Nat) (l0:List (S169)):Option ((List (S50))):=if 0≤(l0.length:Int) then (if ((l0.length:Int):Int).toNat≤8796093022208 then (laws_toSectionS.l0 k l0 (List.replicate ((l0.length:Int):Int).toNat z50) 0) else (none)) else (none)
set_option maxHeartbeats 8000000 in
set_option maxRecDepth 100000 in
theorem laws_toSectionS.calls (k:Nat) (A0:Option Addr) (c0:Nat) (l0:List (S169)) (r:List (S50)) (w:World) (hr0:Kd.C k169 w A0 l0.length l0) (hc0:l0.length≤c0) (h:laws_toSectionS.f k l0=some r) :
  Calls Try.prog 115 #[.slice A0 l0.length c0] w fun e w'=>∃ v0_:Value,e=.returned (v0_)∧Kd.R k50 50 w' w.heap.size (fun _=>True) v0_ r∧Below w.heap.size w w':=by
 have hu169:=Try.underlying169
 have hu50:=Try.underlying50
 have HR0:=Aside0.mk hr0
 have HC0:=Aside0.mk hc0
 clear hr0 hc0
 have HB:=Aside0.mk (Below.refl w.heap.size w)
 have H:(if 0≤(l0.length:Int) then (if ((l0.length:Int):Int).toNat≤8796093022208 then (laws_toSectionS.l0 k l0 (List.replicate ((l0.length:Int):Int).toNat z50) 0) else (none)) else (none))=some r:=h
 clear h
 by_cases c2:0≤(l0.length:Int)
 ·rw [if_pos c2] at H
  have c2b0:=eq_true c2
  have c2b1:decide (0≤(l0.length:Int))=true:=decide_eq_true c2
  clear c2
  by_cases c3:((l0.length:Int):Int).toNat≤8796093022208
  ·rw [if_pos c3] at H
   have c3b0:=eq_true c3
   have c3b1:decide (((l0.length:Int):Int).toNat≤8796093022208)=true:=decide_eq_true c3
   clear c3
   obtain ⟨y731,hy731⟩:∃ y_:List (S50),y_=(List.replicate ((l0.length:Int):Int).toNat z50):=⟨_,rfl⟩
   replace H:(laws_toSectionS.l0 k l0 y731 0)=some r:=by first|(rw [hy731];with_reducible exact H)|(have H2_:=(Option.bind_some _ _).symm.trans H;rw [hy731];with_reducible exact H2_)|(have H2_:=(Option.bind_some _ _).symm.trans H;with_reducible exact H2_)|with_reducible exact H|(rw [hy731];exact H)|exact H
   have Ny731:=Aside0.mk hy731
   clear hy731
   have H':=Aside0.mk H
   clear H
   go_enter Try.func115,Try.ntmps115
   go_wp2_with (first|((with_reducible refine gate_dst (N:=7) rfl ?_);refine Kd.R_make k50 _ 50 rfl (N:=7) rfl 43 _ _ rfl (l0.length:Int) rfl rfl Try.underlying43 (.agg #[(.int .i64 0),(.int .i64 0),(.bool false),(.bool false),(.int .i64 0)]) 32 info50 rfl (by decide) (by omega) z50 (ok:=fun _=>True) (okp:=fun _=>True) (k50_mkM _ _ _ z50 ) (fun _ hk=>hk) trivial (of_decide_eq_true (by first|(with_reducible assumption)|assumption)) (Nat.le_trans (Nat.mul_le_mul_right _ (of_decide_eq_true (by first|(with_reducible assumption)|assumption):(l0.length:Int).toNat≤8796093022208)) (by omega)) (Below.refl _ _) (Nat.le_refl _) ?_;intro v732 w4 ho5 hb hg_ hnew_;clear hg_ hnew_;(first|rw [← Ny731.out] at ho5|(simp only [Int.reduceToNat] at ho5;rw [← Ny731.out] at ho5));have n0_:=Aside0.mk (Kd.R_lower ho5 (below_size (by repeat (first|(with_reducible first|exact HB.out|apply below_alloc|apply pw_below_drewN|apply below_drew1)|exact HB.out))));have n1_:=Aside0.mk (below_step (by repeat (first|(with_reducible first|exact HB.out|apply below_alloc|apply pw_below_drewN|apply below_drew1)|exact HB.out)) hb);clear HB;have HO733:=n0_;have HB:=n1_;clear n0_ n1_;clear hb ho5))
   go_loopg [4] k (fun kq v4 w'=>∃ (x3_1:List (S50)) (x4_1:Int),v4=.int .i64 x4_1∧Aside0 (laws_toSectionS.l0 kq l0 x3_1 x4_1=some r)∧Aside0 (kq≤k)∧Aside0 (Kd.R k50 50 w' w.heap.size (fun _=>True) v732 x3_1)∧Aside0 (Below w.heap.size w w'))
   case atStart=>exact ⟨(y731),(0),(by first|rfl|(simp;done)|(simp [*];done)),H',⟨Nat.le_refl _⟩,⟨by (with_reducible repeat (first|apply Kd.R_alloc|apply Kd.R_drewN|apply Kd.R_drew));exact HO733.out⟩,⟨by repeat (first|(with_reducible first|exact HB.out|apply below_alloc|apply pw_below_drewN|apply below_drew1)|exact HB.out)⟩⟩
   case round =>
    clear H'
    try clear c1
    try clear c2
    try clear c2b0
    try clear c2b1
    try clear p2
    try clear c3
    try clear c3b0
    try clear c3b1
    obtain ⟨x3_1,x4_1,rfl,HA,HK1,HO_3,HB⟩:=hrel
    cases gk with
    | zero=>exact absurd HA.out (by simp [laws_toSectionS.l0])
    | succ k1 =>
     have H:=HA.out
     clear HA
     simp only [laws_toSectionS.l0] at H
     by_cases c6:x4_1<(l0.length:Int)
     ·rw [if_pos c6] at H
      have c6b0:decide (x4_1<(l0.length:Int))=true:=decide_eq_true c6
      clear c6
      by_cases c7:0≤x4_1
      ·rw [if_pos c7] at H
       have c7b0:decide (0≤x4_1)=true:=decide_eq_true c7
       clear c7
       replace H:=Option.bind_eq_some_iff.mp H
       obtain ⟨⟨t735,t736,t737,t738,t739⟩,A80,H⟩:=H
       replace H:(if x4_1<(x3_1.length:Int) then (laws_toSectionS.l0 k1 l0 (x3_1.set (x4_1:Int).toNat (⟨t735,t736,t737,t738,t739⟩:S50)) (wrap64 (x4_1+1))) else (none))=some r:=H
       have A8:=Aside0.mk A80
       clear A80
       by_cases c9:x4_1<(x3_1.length:Int)
       ·rw [if_pos c9] at H
        have c9b0:decide (x4_1<(x3_1.length:Int))=true:=decide_eq_true c9
        clear c9
        obtain ⟨y740,hy740⟩:∃ y_:List (S50),y_=(x3_1.set (x4_1:Int).toNat (⟨t735,t736,t737,t738,t739⟩:S50)):=⟨_,rfl⟩
        replace H:(laws_toSectionS.l0 k1 l0 y740 (wrap64 (x4_1+1)))=some r:=by first|(rw [hy740];with_reducible exact H)|(have H2_:=(Option.bind_some _ _).symm.trans H;rw [hy740];with_reducible exact H2_)|(have H2_:=(Option.bind_some _ _).symm.trans H;with_reducible exact H2_)|with_reducible exact H|(rw [hy740];exact H)|exact H
        have Ny740:=Aside0.mk hy740
        clear hy740
        have H':=Aside0.mk H
        clear H
        have p734:0≤(x4_1:Int):=of_decide_eq_true (by first|(with_reducible assumption)|assumption)
        have q734:x4_1<(l0.length:Int):=of_decide_eq_true (by first|(with_reducible assumption)|assumption)
        obtain ⟨ad734,e734,hx734_0,hx734_1,hx734_2,hx734_3,hx734_4⟩:=at_T169 HR0.out x4_1 p734 q734
        cases e734
        replace hx734_0:=(HB.out.cell (World.block_lt_of_cell? w _ hx734_0)).trans hx734_0
        replace hx734_1:=(HB.out.cell (World.block_lt_of_cell? w _ hx734_1)).trans hx734_1
        replace hx734_2:=(HB.out.cell (World.block_lt_of_cell? w _ hx734_2)).trans hx734_2
        replace hx734_3:=(HB.out.cell (World.block_lt_of_cell? w _ hx734_3)).trans hx734_3
        replace hx734_4:=(HB.out.cell (World.block_lt_of_cell? w _ hx734_4)).trans hx734_4
        replace p734:=eq_true p734
        replace q734:=eq_true q734
        go_wp2_with (first|((with_reducible refine gate_callee (f:=134) rfl ?_);refine goesL_ (some 20) rfl rfl Try.func134 (by kernel_rfl) rfl #[.agg #[.int .i64 ((rd_T169 l0 x4_1).f0),.int .i64 ((rd_T169 l0 x4_1).f1),.bool ((rd_T169 l0 x4_1).f2),.bool ((rd_T169 l0 x4_1).f3),.int .i64 ((rd_T169 l0 x4_1).f4)]] rfl (by (try simp only [List.map_toArray,List.map_cons,List.map_nil]);first|done|rfl|(simp only [List.length_drop,List.length_take];rfl)) ?_;(with_reducible refine (laws_toSection.calls ((rd_T169 l0 x4_1).f0) ((rd_T169 l0 x4_1).f1) ((rd_T169 l0 x4_1).f2) ((rd_T169 l0 x4_1).f3) ((rd_T169 l0 x4_1).f4) t735 t736 t737 t738 t739 _ A8.out).mono ?_);rintro e w11 ⟨rfl,hb⟩;refine ⟨_,rfl,?_⟩;have n0_:=Aside0.mk (Kd.R_below (by (with_reducible repeat (first|apply Kd.R_alloc|apply Kd.R_drewN|apply Kd.R_drew));exact HO_3.out) hb);have n1_:=Aside0.mk (below_step (by repeat (first|(with_reducible first|exact HB.out|apply below_alloc|apply pw_below_drewN|apply below_drew1)|exact HB.out)) hb);clear HO_3;clear HB;have HO_3:=n0_;have HB:=n1_;clear n0_ n1_;(try clear hb);(try clear hb2);(try clear hk);(try clear hi);have p10:0≤(x4_1:Int):=of_decide_eq_true (by first|(with_reducible assumption)|assumption);have q10:(x4_1:Int)<((x3_1.length:Int):Int):=of_decide_eq_true (by first|(with_reducible assumption)|assumption);obtain ⟨go10,co10,eo10,gb10,gl10,cl10,HG10⟩:=Kd.R_form HO_3.out (by omega);(first|cases eo10|(injection eo10 with ea_ en_ ec_;(first|subst ea_|(injection ea_ with ea_;subst ea_));subst ec_;clear en_));have GB10:=Aside0.mk gb10;have GG10:=Aside0.mk HG10;clear gb10 gl10 HG10;obtain ⟨ce10,hcl10,hM10,hcc10,hfr10⟩:=Kd.R_elem HO_3.out z50 (x4_1:Int) p10 q10;obtain rfl:=k50_openM hM10;have hx10_0:w11.cell? ⟨go10,(x4_1:Int).toNat * 5,none⟩=some (.int .i64 ((rd_T50 x3_1 x4_1).f0)):=hcc10 0 _ rfl;have hx10_1:w11.cell? ⟨go10,(x4_1:Int).toNat * 5+1,none⟩=some (.int .i64 ((rd_T50 x3_1 x4_1).f1)):=hcc10 1 _ rfl;have hx10_2:w11.cell? ⟨go10,(x4_1:Int).toNat * 5+2,none⟩=some (.bool ((rd_T50 x3_1 x4_1).f2)):=hcc10 2 _ rfl;have hx10_3:w11.cell? ⟨go10,(x4_1:Int).toNat * 5+3,none⟩=some (.bool ((rd_T50 x3_1 x4_1).f3)):=hcc10 3 _ rfl;have hx10_4:w11.cell? ⟨go10,(x4_1:Int).toNat * 5+4,none⟩=some (.int .i64 ((rd_T50 x3_1 x4_1).f4)):=hcc10 4 _ rfl;have hf10_0:w11.frozen? ⟨go10,(x4_1:Int).toNat * 5,none⟩=false:=hfr10 0;have hf10_1:w11.frozen? ⟨go10,(x4_1:Int).toNat * 5+1,none⟩=false:=hfr10 1;have hf10_2:w11.frozen? ⟨go10,(x4_1:Int).toNat * 5+2,none⟩=false:=hfr10 2;have hf10_3:w11.frozen? ⟨go10,(x4_1:Int).toNat * 5+3,none⟩=false:=hfr10 3;have hf10_4:w11.frozen? ⟨go10,(x4_1:Int).toNat * 5+4,none⟩=false:=hfr10 4;clear hcl10 hcc10 hfr10 hM10;replace p10:=eq_true p10;replace q10:=eq_true q10;have HX12:=Aside0.mk (show Kd.R k50 50 w11 w.heap.size (fun _=>True) (.slice (some ⟨go10,0,none⟩) x3_1.length co10) x3_1 from (by (with_reducible repeat (first|apply Kd.R_alloc|apply Kd.R_drewN|apply Kd.R_drew));exact HO_3.out));obtain ⟨ce12,hcl12,hM12,hcc12,hfr12⟩:=Kd.R_elem HX12.out z50 (x4_1:Int) (of_decide_eq_true (by first|(with_reducible assumption)|assumption)) (by have h_:(x4_1:Int)<((x3_1.length:Int):Int):=of_decide_eq_true (by first|(with_reducible assumption)|assumption);first|exact h_|(have e_:=(Kd.R_reads' HO_3.out).1;omega)|simpa using h_);obtain rfl:=k50_openM hM12;have HP12:=Kd.R_seg HX12.out (x4_1:Int) (of_decide_eq_true (by first|(with_reducible assumption)|assumption)) (by have h_:(x4_1:Int)<((x3_1.length:Int):Int):=of_decide_eq_true (by first|(with_reducible assumption)|assumption);first|exact h_|(have e_:=(Kd.R_reads' HO_3.out).1;omega)|simpa using h_) (seg:=[.int .i64 t735,.int .i64 t736,.bool t737,.bool t738,.int .i64 t739]) (j:=0) hcl12 hcc12 (show 5≤5 from by decide) (x':=(⟨t735,t736,t737,t738,t739⟩:S50)) (k50_mkM _ _ _ (⟨t735,t736,t737,t738,t739⟩:S50) ) (fun _ hk=>hk);have hx12_0:=hcc12 0 _ rfl;(try simp only [show (k50).sz=5 from rfl,Nat.mul_one,Nat.add_zero] at hx12_0);have hf12_0:=hfr12 0;(try simp only [show (k50).sz=5 from rfl,Nat.mul_one,Nat.add_zero] at hf12_0);have hx12_1:=hcc12 1 _ rfl;(try simp only [show (k50).sz=5 from rfl,Nat.mul_one,Nat.add_zero] at hx12_1);have hf12_1:=hfr12 1;(try simp only [show (k50).sz=5 from rfl,Nat.mul_one,Nat.add_zero] at hf12_1);have hx12_2:=hcc12 2 _ rfl;(try simp only [show (k50).sz=5 from rfl,Nat.mul_one,Nat.add_zero] at hx12_2);have hf12_2:=hfr12 2;(try simp only [show (k50).sz=5 from rfl,Nat.mul_one,Nat.add_zero] at hf12_2);have hx12_3:=hcc12 3 _ rfl;(try simp only [show (k50).sz=5 from rfl,Nat.mul_one,Nat.add_zero] at hx12_3);have hf12_3:=hfr12 3;(try simp only [show (k50).sz=5 from rfl,Nat.mul_one,Nat.add_zero] at hf12_3);have hx12_4:=hcc12 4 _ rfl;(try simp only [show (k50).sz=5 from rfl,Nat.mul_one,Nat.add_zero] at hx12_4);have hf12_4:=hfr12 4;(try simp only [show (k50).sz=5 from rfl,Nat.mul_one,Nat.add_zero] at hf12_4);clear hcl12 hcc12 hfr12 hM12)|((with_reducible refine gate_store (t:=50) (p:=21) rfl ?_);refine store_event (t:=50) (p:=21) (v:=?vo_w13) (w1:=(((((w11.setCell ⟨go10,(x4_1:Int).toNat * 5,none⟩ (.int .i64 t735)).setCell ⟨go10,(x4_1:Int).toNat * 5+1,none⟩ (.int .i64 t736)).setCell ⟨go10,(x4_1:Int).toNat * 5+2,none⟩ (.bool t737)).setCell ⟨go10,(x4_1:Int).toNat * 5+3,none⟩ (.bool t738)).setCell ⟨go10,(x4_1:Int).toNat * 5+4,none⟩ (.int .i64 t739))) ?hg ?ho ?hn ?hr ?_;(case ho=>rfl);(case hg=>rfl);(case hn=>rfl);(case hr=>first|(go_simp;done)|(go_simp;rfl));intro w13 hw;have hg:w11.grownBy w13 (some go10):=(by rw [hw];exact HP12.2);have hp_:Kd.R k50 50 w13 w.heap.size (fun _=>True) (.slice (some ⟨go10,0,none⟩) x3_1.length co10) y740:=(by rw [hw,Ny740.out];exact HP12.1);clear HP12;have n0_:=Aside0.mk (hp_);have n1_:=Aside0.mk ((by rw [hw];exact below_set (below_set (below_set (below_set (below_set (HB.out) GB10.out) GB10.out) GB10.out) GB10.out) GB10.out:Below w.heap.size w w13));clear HO_3;clear HB;have HO_3:=n0_;have HB:=n1_;clear n0_ n1_;clear hg hw hp_))
        go_roundg k1
        case measure=>have:=HK1.out;omega
        case rel=>exact ⟨(y740),(wrap64 (x4_1+1)),(by first|rfl|(simp;done)|(simp [*];done)),H',⟨by have:=HK1.out;omega⟩,⟨by (with_reducible repeat (first|apply Kd.R_alloc|apply Kd.R_drewN|apply Kd.R_drew));exact HO_3.out⟩,⟨by repeat (first|(with_reducible first|exact HB.out|apply below_alloc|apply pw_below_drewN|apply below_drew1)|exact HB.out)⟩⟩
       rw [if_neg c9] at H
       exact absurd H (by simp)
      rw [if_neg c7] at H
      exact absurd H (by simp)
     rw [if_neg c6] at H
     have c6b0:decide (x4_1<(l0.length:Int))=false:=decide_eq_false c6
     clear c6
     obtain rfl:=Option.some.inj H
     go_wp2
     go_ret
     exact ⟨_,by first|rfl|(simp [errW_none,errW_some] <;> rfl)|(simp [*,errW_none,errW_some] <;> rfl),by (with_reducible repeat (first|apply Kd.R_alloc|apply Kd.R_drewN|apply Kd.R_drew));exact HO_3.out,by repeat (first|(with_reducible first|exact HB.out|apply below_alloc|apply pw_below_drewN|apply below_drew1)|exact HB.out)⟩
  rw [if_neg c3] at H
  exact absurd H (by simp)
 rw [if_neg c2] at H
 exact absurd H (by simp)
end Go.Proofs.Ytpdnabhpkdchjaa.P
namespace Go.Proofs.Ytpdnabhpkdchjaa.P
open Go.RowKit Go.Proofs.YtpdnabhpkdchjaaW.PrintWords Go.Proofs.YtpdnabhpkdchjaaW.PrintLast Go.Proofs.YtpdnabhpkdchjaaW.PrintMore
attribute [local go_sem] max2_int min2_int max_two min_two max_three min_three max_four min_four
set_option linter.unusedVariables false
set_option linter.unusedSimpArgs false
def laws_toBoolS.l0:Nat→List Bool→List Bool→Int→Option (List Bool)
 | 0,_,_,_=>none
 | k+1,x0,x3,x4=>if x4<(x0.length:Int) then (if 0≤x4 then (if x4<(x3.length:Int) then (laws_toBoolS.l0 k x0 (x3.set (x4:Int).toNat (rdOf false x0 x4)) (wrap64 (x4+1))) else (none)) else (none)) else (some x3)
def laws_toBoolS.f (k:Nat) (l0:List Bool):Option (List Bool):=if 0≤(l0.length:Int) then (if ((l0.length:Int):Int).toNat≤281474976710656 then (laws_toBoolS.l0 k l0 (List.replicate ((l0.length:Int):Int).toNat false) 0) else (none)) else (none)
set_option maxHeartbeats 8000000 in
set_option maxRecDepth 100000 in
theorem laws_toBoolS.calls (k:Nat) (A0:Option Addr) (c0:Nat) (l0:List Bool) (r:List Bool) (w:World) (hr0:Kd.C Kd.bool w A0 l0.length l0) (hc0:l0.length≤c0) (h:laws_toBoolS.f k l0=some r) :
  Calls Try.prog 116 #[.slice A0 l0.length c0] w fun e w'=>∃ v0_:Value,e=.returned (v0_)∧Kd.R Kd.bool 4 w' w.heap.size (fun _=>True) v0_ r∧Below w.heap.size w w':=by
 have HR0:=Aside0.mk hr0
 have HC0:=Aside0.mk hc0
 clear hr0 hc0
 have HB:=Aside0.mk (Below.refl w.heap.size w)
 have H:(if 0≤(l0.length:Int) then (if ((l0.length:Int):Int).toNat≤281474976710656 then (laws_toBoolS.l0 k l0 (List.replicate ((l0.length:Int):Int).toNat false) 0) else (none)) else (none))=some r:=h
 clear h
 by_cases c2:0≤(l0.length:Int)
 ·rw [if_pos c2] at H
  have c2b0:=eq_true c2
  have c2b1:decide (0≤(l0.length:Int))=true:=decide_eq_true c2
  clear c2
  by_cases c3:((l0.length:Int):Int).toNat≤281474976710656
  ·rw [if_pos c3] at H
   have c3b0:=eq_true c3
   have c3b1:decide (((l0.length:Int):Int).toNat≤281474976710656)=true:=decide_eq_true c3
   clear c3
   obtain ⟨y741,hy741⟩:∃ y_:List Bool,y_=(List.replicate ((l0.length:Int):Int).toNat false):=⟨_,rfl⟩
   replace H:(laws_toBoolS.l0 k l0 y741 0)=some r:=by first|(rw [hy741];with_reducible exact H)|(have H2_:=(Option.bind_some _ _).symm.trans H;rw [hy741];with_reducible exact H2_)|(have H2_:=(Option.bind_some _ _).symm.trans H;with_reducible exact H2_)|with_reducible exact H|(rw [hy741];exact H)|exact H
   have Ny741:=Aside0.mk hy741
   clear hy741
   have H':=Aside0.mk H
   clear H
   go_enter Try.func116,Try.ntmps116
   go_wp2_with (first|((with_reducible refine gate_dst (N:=7) rfl ?_);refine Kd.R_make Kd.bool _ 4 rfl (N:=7) rfl 44 _ _ rfl (l0.length:Int) rfl rfl Try.underlying44 (.bool false) 1 info4 rfl (by decide) (by omega) false (ok:=fun _=>True) (okp:=fun _=>True) rfl (fun _ hk=>hk) trivial (of_decide_eq_true (by first|(with_reducible assumption)|assumption)) (Nat.le_trans (Nat.mul_le_mul_right _ (of_decide_eq_true (by first|(with_reducible assumption)|assumption):(l0.length:Int).toNat≤281474976710656)) (by omega)) (Below.refl _ _) (Nat.le_refl _) ?_;intro v742 w4 ho5 hb hg_ hnew_;clear hg_ hnew_;(first|rw [← Ny741.out] at ho5|(simp only [Int.reduceToNat] at ho5;rw [← Ny741.out] at ho5));have n0_:=Aside0.mk (Kd.R_lower ho5 (below_size (by repeat (first|(with_reducible first|exact HB.out|apply below_alloc|apply pw_below_drewN|apply below_drew1)|exact HB.out))));have n1_:=Aside0.mk (below_step (by repeat (first|(with_reducible first|exact HB.out|apply below_alloc|apply pw_below_drewN|apply below_drew1)|exact HB.out)) hb);clear HB;have HO743:=n0_;have HB:=n1_;clear n0_ n1_;clear hb ho5))
   go_loopg [4] k (fun kq v4 w'=>∃ (x3_1:List Bool) (x4_1:Int),v4=.int .i64 x4_1∧Aside0 (laws_toBoolS.l0 kq l0 x3_1 x4_1=some r)∧Aside0 (kq≤k)∧Aside0 (Kd.R Kd.bool 4 w' w.heap.size (fun _=>True) v742 x3_1)∧Aside0 (Below w.heap.size w w'))
   case atStart=>exact ⟨(y741),(0),(by first|rfl|(simp;done)|(simp [*];done)),H',⟨Nat.le_refl _⟩,⟨by (with_reducible repeat (first|apply Kd.R_alloc|apply Kd.R_drewN|apply Kd.R_drew));exact HO743.out⟩,⟨by repeat (first|(with_reducible first|exact HB.out|apply below_alloc|apply pw_below_drewN|apply below_drew1)|exact HB.out)⟩⟩
   case round =>
    clear H'
    try clear c1
    try clear c2
    try clear c2b0
    try clear c2b1
    try clear p2
    try clear c3
    try clear c3b0
    try clear c3b1
    obtain ⟨x3_1,x4_1,rfl,HA,HK1,HO_3,HB⟩:=hrel
    cases gk with
    | zero=>exact absurd HA.out (by simp [laws_toBoolS.l0])
    | succ k1 =>
     have H:=HA.out
     clear HA
     simp only [laws_toBoolS.l0] at H
     by_cases c6:x4_1<(l0.length:Int)
     ·rw [if_pos c6] at H
      have c6b0:decide (x4_1<(l0.length:Int))=true:=decide_eq_true c6
      clear c6
      by_cases c7:0≤x4_1
      ·rw [if_pos c7] at H
       have c7b0:decide (0≤x4_1)=true:=decide_eq_true c7
       clear c7
       by_cases c8:x4_1<(x3_1.length:Int)
       ·rw [if_pos c8] at H
        have c8b0:decide (x4_1<(x3_1.length:Int))=true:=decide_eq_true c8
        clear c8
        obtain ⟨y745,hy745⟩:∃ y_:List Bool,y_=(x3_1.set (x4_1:Int).toNat (rdOf false l0 x4_1)):=⟨_,rfl⟩
        replace H:(laws_toBoolS.l0 k1 l0 y745 (wrap64 (x4_1+1)))=some r:=by first|(rw [hy745];with_reducible exact H)|(have H2_:=(Option.bind_some _ _).symm.trans H;rw [hy745];with_reducible exact H2_)|(have H2_:=(Option.bind_some _ _).symm.trans H;with_reducible exact H2_)|with_reducible exact H|(rw [hy745];exact H)|exact H
        have Ny745:=Aside0.mk hy745
        clear hy745
        have H':=Aside0.mk H
        clear H
        have p744:0≤(x4_1:Int):=of_decide_eq_true (by first|(with_reducible assumption)|assumption)
        have q744:x4_1<(l0.length:Int):=of_decide_eq_true (by first|(with_reducible assumption)|assumption)
        obtain ⟨ad744,e744,hx744_0⟩:=Kd.at_bool HR0.out x4_1 p744 q744
        cases e744
        replace hx744_0:=(HB.out.cell (World.block_lt_of_cell? w _ hx744_0)).trans hx744_0
        replace p744:=eq_true p744
        replace q744:=eq_true q744
        have p9:0≤(x4_1:Int):=of_decide_eq_true (by first|(with_reducible assumption)|assumption)
        have q9:(x4_1:Int)<((x3_1.length:Int):Int):=of_decide_eq_true (by first|(with_reducible assumption)|assumption)
        obtain ⟨go9,co9,eo9,gb9,gl9,cl9,HG9⟩:=Kd.R_form HO_3.out (by omega)
        (first|cases eo9|(injection eo9 with ea_ en_ ec_;(first|subst ea_|(injection ea_ with ea_;subst ea_));subst ec_;clear en_))
        have GB9:=Aside0.mk gb9
        have GG9:=Aside0.mk HG9
        clear gb9 gl9 HG9
        obtain ⟨hx9_0,hf9_0⟩:=Kd.R_celln false HO_3.out (x4_1:Int) p9 q9
        replace p9:=eq_true p9
        replace q9:=eq_true q9
        have HP10:=Kd.R_putg HO_3.out (x4_1:Int) (rdOf false l0 x4_1)
        go_wp2_with (first|((with_reducible refine gate_store (t:=4) (p:=20) rfl ?_);refine store_event (t:=4) (p:=20) (v:=?vo_w11) (w1:=(wr.setCell ⟨go9,(x4_1:Int).toNat,none⟩ (.bool (rdOf false l0 x4_1)))) ?hg ?ho ?hn ?hr ?_;(case ho=>rfl);(case hg=>rfl);(case hn=>rfl);(case hr=>first|(go_simp;done)|(go_simp;rfl));intro w11 hw;have hg:wr.grownBy w11 (some go9):=(by rw [hw];exact HP10.2);have hp_:Kd.R Kd.bool 4 w11 w.heap.size (fun _=>True) (.slice (some ⟨go9,0,none⟩) x3_1.length co9) y745:=(by rw [hw,Ny745.out];exact HP10.1);clear HP10;have n0_:=Aside0.mk (hp_);have n1_:=Aside0.mk ((by rw [hw];exact below_set (HB.out) GB9.out:Below w.heap.size w w11));clear HO_3;clear HB;have HO_3:=n0_;have HB:=n1_;clear n0_ n1_;clear hg hw hp_))
        go_roundg k1
        case measure=>have:=HK1.out;omega
        case rel=>exact ⟨(y745),(wrap64 (x4_1+1)),(by first|rfl|(simp;done)|(simp [*];done)),H',⟨by have:=HK1.out;omega⟩,⟨by (with_reducible repeat (first|apply Kd.R_alloc|apply Kd.R_drewN|apply Kd.R_drew));exact HO_3.out⟩,⟨by repeat (first|(with_reducible first|exact HB.out|apply below_alloc|apply pw_below_drewN|apply below_drew1)|exact HB.out)⟩⟩
       rw [if_neg c8] at H
       exact absurd H (by simp)
      rw [if_neg c7] at H
      exact absurd H (by simp)
     rw [if_neg c6] at H
     have c6b0:decide (x4_1<(l0.length:Int))=false:=decide_eq_false c6
     clear c6
     obtain rfl:=Option.some.inj H
     go_wp2
     go_ret
     exact ⟨_,by first|rfl|(simp [errW_none,errW_some] <;> rfl)|(simp [*,errW_none,errW_some] <;> rfl),by (with_reducible repeat (first|apply Kd.R_alloc|apply Kd.R_drewN|apply Kd.R_drew));exact HO_3.out,by repeat (first|(with_reducible first|exact HB.out|apply below_alloc|apply pw_below_drewN|apply below_drew1)|exact HB.out)⟩
  rw [if_neg c3] at H
  exact absurd H (by simp)
 rw [if_neg c2] at H
 exact absurd H (by simp)
end Go.Proofs.Ytpdnabhpkdchjaa.P
namespace Go.Proofs.Ytpdnabhpkdchjaa.P
open Go.RowKit Go.Proofs.YtpdnabhpkdchjaaW.PrintWords Go.Proofs.YtpdnabhpkdchjaaW.PrintLast Go.Proofs.YtpdnabhpkdchjaaW.PrintMore
attribute [local go_sem] max2_int min2_int max_two min_two max_three min_three max_four min_four
set_option linter.unusedVariables false
set_option linter.unusedSimpArgs false
def laws_toState.f (k:Nat) (a0_0:Bool) (l0_1:List (S169)) (l0_2:List Bool):Option (Bool × (List (S50)) × List Bool):=(laws_toSectionS.f k l0_1).bind fun t749=>((laws_toBoolS.f k l0_2).bind fun t752=>(some (a0_0,t749,t752)))
set_option maxHeartbeats 8000000 in
set_option maxRecDepth 100000 in
theorem laws_toState.calls (k:Nat) (a0_0:Bool) (A0_1:Option Addr) (c0_1:Nat) (l0_1:List (S169)) (A0_2:Option Addr) (c0_2:Nat) (l0_2:List Bool) (r1:Bool) (r2:List (S50)) (r3:List Bool) (w:World) (hr0_1:Kd.C k169 w A0_1 l0_1.length l0_1) (hc0_1:l0_1.length≤c0_1) (hr0_2:Kd.C Kd.bool w A0_2 l0_2.length l0_2) (hc0_2:l0_2.length≤c0_2) (h:laws_toState.f k a0_0 l0_1 l0_2=some (r1,r2,r3)) :
  Calls Try.prog 57 #[.agg #[.bool a0_0,.slice A0_1 l0_1.length c0_1,.slice A0_2 l0_2.length c0_2]] w fun e w'=>∃ v1_ v2_:Value,e=.returned (.agg #[.bool r1,v1_,v2_])∧Kd.R k50 50 w' w.heap.size (fun _=>True) v1_ r2∧Kd.R Kd.bool 4 w' w.heap.size (fun _=>True) v2_ r3∧Below w.heap.size w w':=by
 have hu77:=Try.underlying77
 have hu46:=Try.underlying46
 have HR0_1:=Aside0.mk hr0_1
 have HC0_1:=Aside0.mk hc0_1
 clear hr0_1 hc0_1
 have HR0_2:=Aside0.mk hr0_2
 have HC0_2:=Aside0.mk hc0_2
 clear hr0_2 hc0_2
 have HB:=Aside0.mk (Below.refl w.heap.size w)
 have H:((laws_toSectionS.f k l0_1).bind fun t749=>((laws_toBoolS.f k l0_2).bind fun t752=>(some (a0_0,t749,t752))))=some (r1,r2,r3):=h
 clear h
 replace H:=Option.bind_eq_some_iff.mp H
 obtain ⟨t749,A20,H⟩:=H
 replace H:((laws_toBoolS.f k l0_2).bind fun t752=>(some (a0_0,t749,t752)))=some (r1,r2,r3):=H
 have A2:=Aside0.mk A20
 clear A20
 replace H:=Option.bind_eq_some_iff.mp H
 obtain ⟨t752,A30,H⟩:=H
 replace H:(some (a0_0,t749,t752))=some (r1,r2,r3):=H
 have A3:=Aside0.mk A30
 clear A30
 simp only [Option.some.injEq,Prod.mk.injEq] at H
 obtain ⟨rfl,rfl,rfl⟩:=H
 go_enter Try.func57,Try.ntmps57
 go_wp2_with (first|((with_reducible refine gate_dst (N:=1) rfl ?_);refine box_event ?hg (N:=1) ?hd (cs:=#[.bool a0_0,.slice A0_1 l0_1.length c0_1,.slice A0_2 l0_2.length c0_2]) (t:=77) ?hr ?_;(case hd=>rfl);(case hg=>rfl);(case hr=>first|(go_simp;done)|(go_simp;rfl));intro gb746 hg w4 hbox hb;have n0_:=Aside0.mk (below_step (by repeat (first|(with_reducible first|exact HB.out|apply below_alloc|apply pw_below_drewN|apply below_drew1)|exact HB.out)) hb);have n1_:=Aside0.mk (hbox);have n2_:=Aside0.mk ((by rw [hg];exact (below_size (by repeat (first|(with_reducible first|exact HB.out|apply below_alloc|apply pw_below_drewN|apply below_drew1)|exact HB.out))):w.heap.size≤gb746));have n3_:=Aside0.mk ((by rw [hg];exact (below_size (by repeat (first|(with_reducible first|exact HB.out|apply below_alloc|apply pw_below_drewN|apply below_drew1)|exact HB.out))):w.heap.size≤gb746));clear HB;have HB:=n0_;have BK746:=n1_;have GW746:=n2_;have GE746:=n3_;clear n0_ n1_ n2_ n3_;clear hb hbox hg)|((with_reducible refine gate_dst (N:=2) rfl ?_);refine box_event ?hg (N:=2) ?hd (cs:=#[.bool false,.slice none 0 0,.slice none 0 0]) (t:=46) ?hr ?_;(case hd=>rfl);(case hg=>rfl);(case hr=>first|(go_simp;done)|(go_simp;rfl));intro gb747 hg w5 hbox hb;have n0_:=Aside0.mk (blk_below (g:=gb746) (o:=.cells #[.bool a0_0,.slice A0_1 l0_1.length c0_1,.slice A0_2 l0_2.length c0_2] 77 (0,0)) (by (with_reducible repeat (first|refine blk_drewN ?_ _|refine blk_drew ?_|refine blk_alloc ?_ _));exact BK746.out) hb);have n1_:=Aside0.mk (below_step (by repeat (first|(with_reducible first|exact HB.out|apply below_alloc|apply pw_below_drewN|apply below_drew1|refine below_set ?_ GE746.out)|exact HB.out)) hb);have n2_:=Aside0.mk (hbox);have n3_:=Aside0.mk ((by rw [hg];exact (below_size (by repeat (first|(with_reducible first|exact HB.out|apply below_alloc|apply pw_below_drewN|apply below_drew1|refine below_set ?_ GE746.out)|exact HB.out))):w.heap.size≤gb747));have n4_:=Aside0.mk ((by rw [hg];exact (below_size (by repeat (first|(with_reducible first|exact HB.out|apply below_alloc|apply pw_below_drewN|apply below_drew1|refine below_set ?_ GE746.out)|exact HB.out))):w.heap.size≤gb747));have n5_:=Aside0.mk ((by rw [hg];exact Nat.ne_of_lt (blk_lt (g:=gb746) (o:=.cells #[.bool a0_0,.slice A0_1 l0_1.length c0_1,.slice A0_2 l0_2.length c0_2] 77 (0,0)) (by (with_reducible repeat (first|refine blk_drewN ?_ _|refine blk_drew ?_|refine blk_alloc ?_ _));exact BK746.out)):gb746 ≠ gb747));have n6_:=Aside0.mk ((by rw [hg];exact Nat.ne_of_gt (blk_lt (g:=gb746) (o:=.cells #[.bool a0_0,.slice A0_1 l0_1.length c0_1,.slice A0_2 l0_2.length c0_2] 77 (0,0)) (by (with_reducible repeat (first|refine blk_drewN ?_ _|refine blk_drew ?_|refine blk_alloc ?_ _));exact BK746.out)):gb747 ≠ gb746));clear BK746;clear HB;have BK746:=n0_;have HB:=n1_;have BK747:=n2_;have GW747:=n3_;have GE747:=n4_;have NB746_747:=n5_;have NB747_746:=n6_;clear n0_ n1_ n2_ n3_ n4_ n5_ n6_;clear hb hbox hg)|((with_reducible refine gate_dst (N:=3) rfl ?_);refine box_event ?hg (N:=3) ?hd (cs:=#[.bool false,.slice none 0 0,.slice none 0 0]) (t:=46) ?hr ?_;(case hd=>rfl);(case hg=>rfl);(case hr=>first|(go_simp;done)|(go_simp;rfl));intro gb748 hg w6 hbox hb;have n0_:=Aside0.mk (blk_below (g:=gb746) (o:=.cells #[.bool a0_0,.slice A0_1 l0_1.length c0_1,.slice A0_2 l0_2.length c0_2] 77 (0,0)) (by (with_reducible repeat (first|refine blk_drewN ?_ _|refine blk_drew ?_|refine blk_alloc ?_ _));exact BK746.out) hb);have n1_:=Aside0.mk (blk_below (g:=gb747) (o:=.cells #[.bool false,.slice none 0 0,.slice none 0 0] 46 (0,0)) (by (with_reducible repeat (first|refine blk_drewN ?_ _|refine blk_drew ?_|refine blk_alloc ?_ _));exact BK747.out) hb);have n2_:=Aside0.mk (below_step (by repeat (first|(with_reducible first|exact HB.out|apply below_alloc|apply pw_below_drewN|apply below_drew1|refine below_set ?_ GE746.out|refine below_set ?_ GE747.out)|exact HB.out)) hb);have n3_:=Aside0.mk (hbox);have n4_:=Aside0.mk ((by rw [hg];exact (below_size (by repeat (first|(with_reducible first|exact HB.out|apply below_alloc|apply pw_below_drewN|apply below_drew1|refine below_set ?_ GE746.out|refine below_set ?_ GE747.out)|exact HB.out))):w.heap.size≤gb748));have n5_:=Aside0.mk ((by rw [hg];exact (below_size (by repeat (first|(with_reducible first|exact HB.out|apply below_alloc|apply pw_below_drewN|apply below_drew1|refine below_set ?_ GE746.out|refine below_set ?_ GE747.out)|exact HB.out))):w.heap.size≤gb748));have n6_:=Aside0.mk ((by rw [hg];exact Nat.ne_of_lt (blk_lt (g:=gb746) (o:=.cells #[.bool a0_0,.slice A0_1 l0_1.length c0_1,.slice A0_2 l0_2.length c0_2] 77 (0,0)) (by (with_reducible repeat (first|refine blk_drewN ?_ _|refine blk_drew ?_|refine blk_alloc ?_ _));exact BK746.out)):gb746 ≠ gb748));have n7_:=Aside0.mk ((by rw [hg];exact Nat.ne_of_gt (blk_lt (g:=gb746) (o:=.cells #[.bool a0_0,.slice A0_1 l0_1.length c0_1,.slice A0_2 l0_2.length c0_2] 77 (0,0)) (by (with_reducible repeat (first|refine blk_drewN ?_ _|refine blk_drew ?_|refine blk_alloc ?_ _));exact BK746.out)):gb748 ≠ gb746));have n8_:=Aside0.mk ((by rw [hg];exact Nat.ne_of_lt (blk_lt (g:=gb747) (o:=.cells #[.bool false,.slice none 0 0,.slice none 0 0] 46 (0,0)) (by (with_reducible repeat (first|refine blk_drewN ?_ _|refine blk_drew ?_|refine blk_alloc ?_ _));exact BK747.out)):gb747 ≠ gb748));have n9_:=Aside0.mk ((by rw [hg];exact Nat.ne_of_gt (blk_lt (g:=gb747) (o:=.cells #[.bool false,.slice none 0 0,.slice none 0 0] 46 (0,0)) (by (with_reducible repeat (first|refine blk_drewN ?_ _|refine blk_drew ?_|refine blk_alloc ?_ _));exact BK747.out)):gb748 ≠ gb747));clear BK746;clear BK747;clear HB;have BK746:=n0_;have BK747:=n1_;have HB:=n2_;have BK748:=n3_;have GW748:=n4_;have GE748:=n5_;have NB746_748:=n6_;have NB748_746:=n7_;have NB747_748:=n8_;have NB748_747:=n9_;clear n0_ n1_ n2_ n3_ n4_ n5_ n6_ n7_ n8_ n9_;clear hb hbox hg;have hnb7:=NB746_747.out;have hnc7:=NB747_746.out;have hnb8:=NB746_748.out;have hnc8:=NB748_746.out;have hcz9_0:w6.cell? ⟨gb746,0,none⟩=some (.bool a0_0):=(blk_cell BK746.out 0).trans rfl;have hcz9_1:w6.cell? ⟨gb746,1,none⟩=some (.slice A0_1 l0_1.length c0_1):=(blk_cell BK746.out 1).trans rfl;have hcz9_2:w6.cell? ⟨gb746,2,none⟩=some (.slice A0_2 l0_2.length c0_2):=(blk_cell BK746.out 2).trans rfl;have hfz9_0:=blk_frozen BK746.out 0;have hfz9_1:=blk_frozen BK746.out 1;have hfz9_2:=blk_frozen BK746.out 2;have hnb10:=NB748_747.out;have hnc10:=NB747_748.out;have hcz11_0:w6.cell? ⟨gb748,0,none⟩=some (.bool false):=(blk_cell BK748.out 0).trans rfl;have hcz11_1:w6.cell? ⟨gb748,1,none⟩=some (.slice none 0 0):=(blk_cell BK748.out 1).trans rfl;have hcz11_2:w6.cell? ⟨gb748,2,none⟩=some (.slice none 0 0):=(blk_cell BK748.out 2).trans rfl;have hfz11_0:=blk_frozen BK748.out 0;have hfz11_1:=blk_frozen BK748.out 1;have hfz11_2:=blk_frozen BK748.out 2)|((with_reducible refine gate_callee (f:=115) rfl ?_);refine goesL_ (some 9) rfl rfl Try.func115 (by kernel_rfl) rfl #[.slice A0_1 l0_1.length c0_1] rfl (by (try simp only [List.map_toArray,List.map_cons,List.map_nil]);first|done|rfl|(simp only [List.length_drop,List.length_take];rfl)) ?_;(with_reducible refine (laws_toSectionS.calls k _ _ l0_1 t749 _ ?side1 ?side2 A2.out).mono ?_);(case side1=>exact Kd.C_below HR0_1.out (by repeat (first|(with_reducible first|exact HB.out|apply below_alloc|apply pw_below_drewN|apply below_drew1|refine below_set ?_ GE746.out|refine below_set ?_ GE747.out|refine below_set ?_ GE748.out)|exact HB.out)));(case side2=>exact HC0_1.out);rintro e w12 ⟨v750,rfl,ho0,hb⟩;refine ⟨_,rfl,?_⟩;have n0_:=Aside0.mk (Kd.R_lower ho0 (below_size (by repeat (first|(with_reducible first|exact HB.out|apply below_alloc|apply pw_below_drewN|apply below_drew1|refine below_set ?_ GE746.out|refine below_set ?_ GE747.out|refine below_set ?_ GE748.out)|exact HB.out))));have n1_:=Aside0.mk (blk_below (g:=gb746) (o:=.cells #[.bool a0_0,.slice A0_1 l0_1.length c0_1,.slice A0_2 l0_2.length c0_2] 77 (0,0)) (by (with_reducible repeat (first|refine blk_drewN ?_ _|refine blk_drew ?_|refine blk_alloc ?_ _));refine blk_far ?_ NB746_748.out _;(with_reducible repeat (first|refine blk_drewN ?_ _|refine blk_drew ?_|refine blk_alloc ?_ _));exact BK746.out) hb);have n2_:=Aside0.mk (blk_below (g:=gb747) (o:=.cells #[.bool false,.slice none 0 0,.slice none 0 0] 46 (0,0)) (by (with_reducible repeat (first|refine blk_drewN ?_ _|refine blk_drew ?_|refine blk_alloc ?_ _));refine blk_far ?_ NB747_748.out _;(with_reducible repeat (first|refine blk_drewN ?_ _|refine blk_drew ?_|refine blk_alloc ?_ _));exact BK747.out) hb);have n3_:=Aside0.mk (blk_below (g:=gb748) (o:=.cells #[.bool a0_0,.slice none 0 0,.slice none 0 0] 46 (0,0)) (by (with_reducible repeat (first|refine blk_drewN ?_ _|refine blk_drew ?_|refine blk_alloc ?_ _));refine blk_put (cs:=#[.bool false,.slice none 0 0,.slice none 0 0]) ?_ 0 _ rfl;(with_reducible repeat (first|refine blk_drewN ?_ _|refine blk_drew ?_|refine blk_alloc ?_ _));exact BK748.out) hb);have n4_:=Aside0.mk (below_step (by repeat (first|(with_reducible first|exact HB.out|apply below_alloc|apply pw_below_drewN|apply below_drew1|refine below_set ?_ GE746.out|refine below_set ?_ GE747.out|refine below_set ?_ GE748.out)|exact HB.out)) hb);clear BK746;clear BK747;clear BK748;clear HB;have HO751:=n0_;have BK746:=n1_;have BK747:=n2_;have BK748:=n3_;have HB:=n4_;clear n0_ n1_ n2_ n3_ n4_;(try clear hb);(try clear hb2);(try clear hk);(try clear hi);(try clear ho0);obtain ⟨Ao13,co13,eo13⟩:=Kd.R_slice HO751.out;subst eo13;have hcz14_0:w12.cell? ⟨gb748,0,none⟩=some (.bool a0_0):=(blk_cell BK748.out 0).trans rfl;have hcz14_1:w12.cell? ⟨gb748,1,none⟩=some (.slice none 0 0):=(blk_cell BK748.out 1).trans rfl;have hcz14_2:w12.cell? ⟨gb748,2,none⟩=some (.slice none 0 0):=(blk_cell BK748.out 2).trans rfl;have hfz14_0:=blk_frozen BK748.out 0;have hfz14_1:=blk_frozen BK748.out 1;have hfz14_2:=blk_frozen BK748.out 2;have hcz15_0:w12.cell? ⟨gb746,0,none⟩=some (.bool a0_0):=(blk_cell BK746.out 0).trans rfl;have hcz15_1:w12.cell? ⟨gb746,1,none⟩=some (.slice A0_1 l0_1.length c0_1):=(blk_cell BK746.out 1).trans rfl;have hcz15_2:w12.cell? ⟨gb746,2,none⟩=some (.slice A0_2 l0_2.length c0_2):=(blk_cell BK746.out 2).trans rfl;have hfz15_0:=blk_frozen BK746.out 0;have hfz15_1:=blk_frozen BK746.out 1;have hfz15_2:=blk_frozen BK746.out 2)|((with_reducible refine gate_callee (f:=116) rfl ?_);refine goesL_ (some 13) rfl rfl Try.func116 (by kernel_rfl) rfl #[.slice A0_2 l0_2.length c0_2] rfl (by (try simp only [List.map_toArray,List.map_cons,List.map_nil]);first|done|rfl|(simp only [List.length_drop,List.length_take];rfl)) ?_;(with_reducible refine (laws_toBoolS.calls k _ _ l0_2 t752 _ ?side1 ?side2 A3.out).mono ?_);(case side1=>exact Kd.C_below HR0_2.out (by repeat (first|(with_reducible first|exact HB.out|apply below_alloc|apply pw_below_drewN|apply below_drew1|refine below_set ?_ GE746.out|refine below_set ?_ GE747.out|refine below_set ?_ GE748.out)|exact HB.out)));(case side2=>exact HC0_2.out);rintro e w16 ⟨v753,rfl,ho0,hb⟩;refine ⟨_,rfl,?_⟩;have n0_:=Aside0.mk (Kd.R_below (by (with_reducible repeat (first|apply Kd.R_alloc|apply Kd.R_drewN|apply Kd.R_drew));exact (Kd.R_mono (Kd.R_far (p:=⟨gb748,1,none⟩) (Kd.R_types HO751.out BK748.out (by decide)) (fun _ hk=>hk.2) (.slice Ao13 t749.length co13)) (fun _ h_=>h_.1))) hb);have n1_:=Aside0.mk (Kd.R_lower ho0 (below_size (by repeat (first|(with_reducible first|exact HB.out|apply below_alloc|apply pw_below_drewN|apply below_drew1|refine below_set ?_ GE746.out|refine below_set ?_ GE747.out|refine below_set ?_ GE748.out)|exact HB.out))));have n2_:=Aside0.mk (blk_below (g:=gb746) (o:=.cells #[.bool a0_0,.slice A0_1 l0_1.length c0_1,.slice A0_2 l0_2.length c0_2] 77 (0,0)) (by (with_reducible repeat (first|refine blk_drewN ?_ _|refine blk_drew ?_|refine blk_alloc ?_ _));refine blk_far ?_ NB746_748.out _;(with_reducible repeat (first|refine blk_drewN ?_ _|refine blk_drew ?_|refine blk_alloc ?_ _));exact BK746.out) hb);have n3_:=Aside0.mk (blk_below (g:=gb747) (o:=.cells #[.bool false,.slice none 0 0,.slice none 0 0] 46 (0,0)) (by (with_reducible repeat (first|refine blk_drewN ?_ _|refine blk_drew ?_|refine blk_alloc ?_ _));refine blk_far ?_ NB747_748.out _;(with_reducible repeat (first|refine blk_drewN ?_ _|refine blk_drew ?_|refine blk_alloc ?_ _));exact BK747.out) hb);have n4_:=Aside0.mk (blk_below (g:=gb748) (o:=.cells #[.bool a0_0,.slice Ao13 t749.length co13,.slice none 0 0] 46 (0,0)) (by (with_reducible repeat (first|refine blk_drewN ?_ _|refine blk_drew ?_|refine blk_alloc ?_ _));refine blk_put (cs:=#[.bool a0_0,.slice none 0 0,.slice none 0 0]) ?_ 1 _ rfl;(with_reducible repeat (first|refine blk_drewN ?_ _|refine blk_drew ?_|refine blk_alloc ?_ _));exact BK748.out) hb);have n5_:=Aside0.mk (below_step (by repeat (first|(with_reducible first|exact HB.out|apply below_alloc|apply pw_below_drewN|apply below_drew1|refine below_set ?_ GE746.out|refine below_set ?_ GE747.out|refine below_set ?_ GE748.out)|exact HB.out)) hb);clear HO751;clear BK746;clear BK747;clear BK748;clear HB;have HO751:=n0_;have HO754:=n1_;have BK746:=n2_;have BK747:=n3_;have BK748:=n4_;have HB:=n5_;clear n0_ n1_ n2_ n3_ n4_ n5_;(try clear hb);(try clear hb2);(try clear hk);(try clear hi);(try clear ho0);obtain ⟨Ao17,co17,eo17⟩:=Kd.R_slice HO754.out;subst eo17;have hcz18_0:w16.cell? ⟨gb748,0,none⟩=some (.bool a0_0):=(blk_cell BK748.out 0).trans rfl;have hcz18_1:w16.cell? ⟨gb748,1,none⟩=some (.slice Ao13 t749.length co13):=(blk_cell BK748.out 1).trans rfl;have hcz18_2:w16.cell? ⟨gb748,2,none⟩=some (.slice none 0 0):=(blk_cell BK748.out 2).trans rfl;have hfz18_0:=blk_frozen BK748.out 0;have hfz18_1:=blk_frozen BK748.out 1;have hfz18_2:=blk_frozen BK748.out 2;have hcz19_0:w16.cell? ⟨gb747,0,none⟩=some (.bool false):=(blk_cell BK747.out 0).trans rfl;have hcz19_1:w16.cell? ⟨gb747,1,none⟩=some (.slice none 0 0):=(blk_cell BK747.out 1).trans rfl;have hcz19_2:w16.cell? ⟨gb747,2,none⟩=some (.slice none 0 0):=(blk_cell BK747.out 2).trans rfl;have hfz19_0:=blk_frozen BK747.out 0;have hfz19_1:=blk_frozen BK747.out 1;have hfz19_2:=blk_frozen BK747.out 2))
 refine bodyPost_ret (results_cell_row rfl _ _ gb747 46 #[.bool a0_0,.slice Ao13 t749.length co13,.slice Ao17 t752.length co17] (0,0) _ rfl (by (with_reducible repeat (first|refine blk_drewN ?_ _|refine blk_drew ?_|refine blk_alloc ?_ _));refine blk_put (cs:=#[.bool a0_0,.slice Ao13 t749.length co13,.slice none 0 0]) ?_ 2 _ rfl;(with_reducible repeat (first|refine blk_drewN ?_ _|refine blk_drew ?_|refine blk_alloc ?_ _));refine blk_put (cs:=#[.bool a0_0,.slice none 0 0,.slice none 0 0]) ?_ 1 _ rfl;(with_reducible repeat (first|refine blk_drewN ?_ _|refine blk_drew ?_|refine blk_alloc ?_ _));refine blk_put (cs:=#[.bool false,.slice none 0 0,.slice none 0 0]) ?_ 0 _ rfl;(with_reducible repeat (first|refine blk_drewN ?_ _|refine blk_drew ?_|refine blk_alloc ?_ _));refine blk_far ?_ NB747_748.out _;(with_reducible repeat (first|refine blk_drewN ?_ _|refine blk_drew ?_|refine blk_alloc ?_ _));exact BK747.out) Try.underlying46 rfl (by kernel_rfl)) rfl ?_
 exact ⟨_,_,by first|rfl|(simp [errW_none,errW_some] <;> rfl)|(simp [*,errW_none,errW_some] <;> rfl),by (with_reducible repeat (first|apply Kd.R_alloc|apply Kd.R_drewN|apply Kd.R_drew));exact Kd.R_mono (Kd.R_far (p:=⟨gb747,2,none⟩) (Kd.R_far (p:=⟨gb747,1,none⟩) (Kd.R_far (p:=⟨gb747,0,none⟩) (Kd.R_far (p:=⟨gb748,2,none⟩) (Kd.R_types (Kd.R_types HO751.out BK748.out (by decide)) BK747.out (by decide)) (fun _ hk=>hk.1.2) (.slice Ao17 t752.length co17)) (fun _ hk=>hk.2) (.bool a0_0)) (fun _ hk=>hk.2) (.slice Ao13 t749.length co13)) (fun _ hk=>hk.2) (.slice Ao17 t752.length co17)) (fun _ hk=>trivial),by (with_reducible repeat (first|apply Kd.R_alloc|apply Kd.R_drewN|apply Kd.R_drew));exact Kd.R_mono (Kd.R_far (p:=⟨gb747,2,none⟩) (Kd.R_far (p:=⟨gb747,1,none⟩) (Kd.R_far (p:=⟨gb747,0,none⟩) (Kd.R_far (p:=⟨gb748,2,none⟩) (Kd.R_types (Kd.R_types HO754.out BK748.out (by decide)) BK747.out (by decide)) (fun _ hk=>hk.1.2) (.slice Ao17 t752.length co17)) (fun _ hk=>hk.2) (.bool a0_0)) (fun _ hk=>hk.2) (.slice Ao13 t749.length co13)) (fun _ hk=>hk.2) (.slice Ao17 t752.length co17)) (fun _ hk=>trivial),by repeat (first|(with_reducible first|exact HB.out|apply below_alloc|apply pw_below_drewN|apply below_drew1|refine below_set ?_ GE746.out|refine below_set ?_ GE747.out|refine below_set ?_ GE748.out)|exact HB.out)⟩
end Go.Proofs.Ytpdnabhpkdchjaa.P
namespace Go.Proofs.Ytpdnabhpkdchjaa.P
open Go.RowKit Go.Proofs.YtpdnabhpkdchjaaW.PrintWords Go.Proofs.YtpdnabhpkdchjaaW.PrintLast
set_option linter.unusedVariables false
set_option linter.unusedSimpArgs false
theorem szState_eq (b : Bool) (l : List S169) (m : List Bool) (left : Int) (h0 : 0 ≤ left) (h1 : left ≤ 1048576) (hl : l.length ≤ 9223372036854775807) (hm : m.length ≤ 9223372036854775807) :
    laws_szState.f b l m left = some (if left < (l.length : Int) + m.length then -1 else left - l.length - m.length) := by
  unfold laws_szState.f laws_szSectionS.f laws_szBoolS.f
  rw [wrap_id (by omega) (by omega)]
  by_cases h : left - l.length < 0
  · rw [if_pos h, if_pos (by omega)]; rfl
  · rw [if_neg h]
    simp only [Option.bind_some]
    rw [if_neg h, wrap_id (by omega) (by omega)]
    by_cases h2 : left - l.length - m.length < 0
    · rw [if_pos h2, if_pos (by omega)]; rfl
    · rw [if_neg h2, if_neg (by omega)]
      simp only [Option.bind_some]
      rw [if_neg h2]
def cvS (x : S169) : S50 := ⟨x.f0, x.f1, x.f2, x.f3, x.f4⟩
theorem rd169 (l : List S169) (i : Nat) (h : i < l.length) : rd_T169 l (i : Int) = l[i] := by simp [rd_T169, h]
theorem toSectionS_l0 (l : List S169) (hl : l.length ≤ 1048576) (d : Nat) : ∀ (i : Nat), i + d = l.length → Ev (fun k => laws_toSectionS.l0 k l ((l.take i).map cvS ++ List.replicate d z50) i) (l.map cvS) := by
  induction d with
  | zero =>
    intro i hi
    refine Ev.step1 fun k => ?_
    simp only [laws_toSectionS.l0]
    rw [if_neg (by omega), List.take_of_length_le (by omega)]
    simp
  | succ d ih =>
    intro i hi
    have hlt : i < l.length := by omega
    refine Ev.step (fun k => ?_) (ih (i + 1) (by omega))
    simp only [laws_toSectionS.l0, laws_toSection.f]
    rw [if_pos (by omega), if_pos (by omega)]
    simp only [Option.bind_some]
    rw [if_pos (by simp; omega), wrap_succ (by omega), rd169 l i hlt]
    congr 1
    rw [Int.toNat_natCast, List.set_append_right _ _ (by simp; omega)]
    simp only [List.map_take, List.length_take, List.length_map, Nat.min_eq_left (Nat.le_of_lt hlt), Nat.sub_self, List.replicate_succ, List.set_cons_zero]
    rw [List.take_succ_eq_append_getElem (by simpa using hlt)]
    simp [cvS]
theorem toBoolS_l0 (l : List Bool) (hl : l.length ≤ 1048576) (d : Nat) : ∀ (i : Nat), i + d = l.length → Ev (fun k => laws_toBoolS.l0 k l (l.take i ++ List.replicate d false) i) l := by
  induction d with
  | zero =>
    intro i hi
    refine Ev.step1 fun k => ?_
    simp only [laws_toBoolS.l0]
    rw [if_neg (by omega), List.take_of_length_le (by omega)]
    simp
  | succ d ih =>
    intro i hi
    have hlt : i < l.length := by omega
    refine Ev.step (fun k => ?_) (ih (i + 1) (by omega))
    simp only [laws_toBoolS.l0]
    rw [if_pos (by omega), if_pos (by omega), if_pos (by simp; omega), wrap_succ (by omega)]
    congr 1
    rw [Int.toNat_natCast, List.set_append_right _ _ (by simp; omega)]
    simp only [List.length_take, Nat.min_eq_left (Nat.le_of_lt hlt), Nat.sub_self, List.replicate_succ, List.set_cons_zero]
    have e1 : (l.take (i + 1) : List Bool) = l.take i ++ [l[i]] := List.take_succ_eq_append_getElem hlt
    simp [rdOf, hlt]
    rw [e1, List.append_assoc]
    rfl
theorem toState_ev (b : Bool) (l : List S169) (m : List Bool) (hl : l.length ≤ 1048576) (hm : m.length ≤ 1048576) : Ev (fun k => laws_toState.f k b l m) (b, l.map cvS, m) := by
  unfold laws_toState.f
  refine Ev.bind (a := l.map cvS) ?_ (Ev.bind (a := m) ?_ (Ev.now _))
  · unfold laws_toSectionS.f
    refine Ev.ite_pos (by omega) (Ev.ite_pos (by omega) ?_)
    simpa using toSectionS_l0 l hl l.length 0 (by omega)
  · unfold laws_toBoolS.f
    refine Ev.ite_pos (by omega) (Ev.ite_pos (by omega) ?_)
    simpa using toBoolS_l0 m hm m.length 0 (by omega)
end Go.Proofs.Ytpdnabhpkdchjaa.P
namespace Go.Proofs.Ytpdnabhpkdchjaa.P
open Go.RowKit Go.Proofs.YtpdnabhpkdchjaaW.PrintWords Go.Proofs.YtpdnabhpkdchjaaW.PrintLast Go.Proofs.YtpdnabhpkdchjaaW.PrintMore
attribute [local go_sem] max2_int min2_int max_two min_two max_three min_three max_four min_four
set_option linter.unusedVariables false
set_option linter.unusedSimpArgs false
def laws_eqDone.f (k:Nat) (a0_0:Int) (a0_1:Bool) (l0_2:List (S50)) (l0_3:List Bool) (a1_0:Int) (a1_1:Bool) (l1_2:List (S50)) (l1_3:List Bool):Option (Bool):=if a0_0=a1_0 then ((laws_eqState.f k a0_1 l0_2 l0_3 a1_1 l1_2 l1_3).bind fun t889=>(if t889=true then (some true) else (some false))) else (some false)
set_option maxHeartbeats 8000000 in
set_option maxRecDepth 100000 in
theorem laws_eqDone.calls (k:Nat) (a0_0:Int) (a0_1:Bool) (A0_2:Option Addr) (c0_2:Nat) (l0_2:List (S50)) (A0_3:Option Addr) (c0_3:Nat) (l0_3:List Bool) (a1_0:Int) (a1_1:Bool) (A1_2:Option Addr) (c1_2:Nat) (l1_2:List (S50)) (A1_3:Option Addr) (c1_3:Nat) (l1_3:List Bool) (r:Bool) (w:World) (hr0_2:Kd.C k50 w A0_2 l0_2.length l0_2) (hc0_2:l0_2.length≤c0_2) (hr0_3:Kd.C Kd.bool w A0_3 l0_3.length l0_3) (hc0_3:l0_3.length≤c0_3) (hr1_2:Kd.C k50 w A1_2 l1_2.length l1_2) (hc1_2:l1_2.length≤c1_2) (hr1_3:Kd.C Kd.bool w A1_3 l1_3.length l1_3) (hc1_3:l1_3.length≤c1_3) (h:laws_eqDone.f k a0_0 a0_1 l0_2 l0_3 a1_0 a1_1 l1_2 l1_3=some r) :
  Calls Try.prog 71 #[.agg #[.int .i64 a0_0,.bool a0_1,.slice A0_2 l0_2.length c0_2,.slice A0_3 l0_3.length c0_3],.agg #[.int .i64 a1_0,.bool a1_1,.slice A1_2 l1_2.length c1_2,.slice A1_3 l1_3.length c1_3]] w fun e w'=>e=.returned (.bool r)∧Below w.heap.size w w':=by
 have hu48:=Try.underlying48
 have hu46:=Try.underlying46
 have HR0_2:=Aside0.mk hr0_2
 have HC0_2:=Aside0.mk hc0_2
 clear hr0_2 hc0_2
 have HR0_3:=Aside0.mk hr0_3
 have HC0_3:=Aside0.mk hc0_3
 clear hr0_3 hc0_3
 have HR1_2:=Aside0.mk hr1_2
 have HC1_2:=Aside0.mk hc1_2
 clear hr1_2 hc1_2
 have HR1_3:=Aside0.mk hr1_3
 have HC1_3:=Aside0.mk hc1_3
 clear hr1_3 hc1_3
 have HB:=Aside0.mk (Below.refl w.heap.size w)
 have H:(if a0_0=a1_0 then ((laws_eqState.f k a0_1 l0_2 l0_3 a1_1 l1_2 l1_3).bind fun t889=>(if t889=true then (some true) else (some false))) else (some false))=some r:=h
 clear h
 by_cases c3:a0_0=a1_0
 ·rw [if_pos c3] at H
  have c3b0:(a0_0==a1_0)=true:=beq_iff_eq.mpr c3
  have c3b1:(a0_0 != a1_0)=false:=bne_eq_false_iff_eq.mpr c3
  clear c3
  replace H:=Option.bind_eq_some_iff.mp H
  obtain ⟨t889,A40,H⟩:=H
  replace H:(if t889=true then (some true) else (some false))=some r:=H
  have A4:=Aside0.mk A40
  clear A40
  by_cases c5:t889=true
  ·subst c5
   have H1:(some true)=some r:=by rw [if_pos rfl] at H;exact H
   clear H
   have H:=H1
   clear H1
   obtain rfl:=Option.some.inj H
   go_enter Try.func71,Try.ntmps71
   go_wp2_with (first|((with_reducible refine gate_dst (N:=2) rfl ?_);refine box_event ?hg (N:=2) ?hd (cs:=#[.int .i64 a0_0,.bool a0_1,.slice A0_2 l0_2.length c0_2,.slice A0_3 l0_3.length c0_3]) (t:=48) ?hr ?_;(case hd=>rfl);(case hg=>rfl);(case hr=>first|(go_simp;done)|(go_simp;rfl));intro gb887 hg w6 hbox hb;have n0_:=Aside0.mk (below_step (by repeat (first|(with_reducible first|exact HB.out|apply below_alloc|apply pw_below_drewN|apply below_drew1)|exact HB.out)) hb);have n1_:=Aside0.mk (hbox);have n2_:=Aside0.mk ((by rw [hg];exact (below_size (by repeat (first|(with_reducible first|exact HB.out|apply below_alloc|apply pw_below_drewN|apply below_drew1)|exact HB.out))):w.heap.size≤gb887));have n3_:=Aside0.mk ((by rw [hg];exact (below_size (by repeat (first|(with_reducible first|exact HB.out|apply below_alloc|apply pw_below_drewN|apply below_drew1)|exact HB.out))):w.heap.size≤gb887));clear HB;have HB:=n0_;have BK887:=n1_;have GW887:=n2_;have GE887:=n3_;clear n0_ n1_ n2_ n3_;clear hb hbox hg)|((with_reducible refine gate_dst (N:=3) rfl ?_);refine box_event ?hg (N:=3) ?hd (cs:=#[.int .i64 a1_0,.bool a1_1,.slice A1_2 l1_2.length c1_2,.slice A1_3 l1_3.length c1_3]) (t:=48) ?hr ?_;(case hd=>rfl);(case hg=>rfl);(case hr=>first|(go_simp;done)|(go_simp;rfl));intro gb888 hg w7 hbox hb;have n0_:=Aside0.mk (blk_below (g:=gb887) (o:=.cells #[.int .i64 a0_0,.bool a0_1,.slice A0_2 l0_2.length c0_2,.slice A0_3 l0_3.length c0_3] 48 (0,0)) (by (with_reducible repeat (first|refine blk_drewN ?_ _|refine blk_drew ?_|refine blk_alloc ?_ _));exact BK887.out) hb);have n1_:=Aside0.mk (below_step (by repeat (first|(with_reducible first|exact HB.out|apply below_alloc|apply pw_below_drewN|apply below_drew1|refine below_set ?_ GE887.out)|exact HB.out)) hb);have n2_:=Aside0.mk (hbox);have n3_:=Aside0.mk ((by rw [hg];exact (below_size (by repeat (first|(with_reducible first|exact HB.out|apply below_alloc|apply pw_below_drewN|apply below_drew1|refine below_set ?_ GE887.out)|exact HB.out))):w.heap.size≤gb888));have n4_:=Aside0.mk ((by rw [hg];exact (below_size (by repeat (first|(with_reducible first|exact HB.out|apply below_alloc|apply pw_below_drewN|apply below_drew1|refine below_set ?_ GE887.out)|exact HB.out))):w.heap.size≤gb888));have n5_:=Aside0.mk ((by rw [hg];exact Nat.ne_of_lt (blk_lt (g:=gb887) (o:=.cells #[.int .i64 a0_0,.bool a0_1,.slice A0_2 l0_2.length c0_2,.slice A0_3 l0_3.length c0_3] 48 (0,0)) (by (with_reducible repeat (first|refine blk_drewN ?_ _|refine blk_drew ?_|refine blk_alloc ?_ _));exact BK887.out)):gb887 ≠ gb888));have n6_:=Aside0.mk ((by rw [hg];exact Nat.ne_of_gt (blk_lt (g:=gb887) (o:=.cells #[.int .i64 a0_0,.bool a0_1,.slice A0_2 l0_2.length c0_2,.slice A0_3 l0_3.length c0_3] 48 (0,0)) (by (with_reducible repeat (first|refine blk_drewN ?_ _|refine blk_drew ?_|refine blk_alloc ?_ _));exact BK887.out)):gb888 ≠ gb887));clear BK887;clear HB;have BK887:=n0_;have HB:=n1_;have BK888:=n2_;have GW888:=n3_;have GE888:=n4_;have NB887_888:=n5_;have NB888_887:=n6_;clear n0_ n1_ n2_ n3_ n4_ n5_ n6_;clear hb hbox hg;have hnb8:=NB887_888.out;have hnc8:=NB888_887.out;have hcz9_0:w7.cell? ⟨gb887,0,none⟩=some (.int .i64 a0_0):=(blk_cell BK887.out 0).trans rfl;have hcz9_1:w7.cell? ⟨gb887,1,none⟩=some (.bool a0_1):=(blk_cell BK887.out 1).trans rfl;have hcz9_2:w7.cell? ⟨gb887,2,none⟩=some (.slice A0_2 l0_2.length c0_2):=(blk_cell BK887.out 2).trans rfl;have hcz9_3:w7.cell? ⟨gb887,3,none⟩=some (.slice A0_3 l0_3.length c0_3):=(blk_cell BK887.out 3).trans rfl;have hfz9_0:=blk_frozen BK887.out 0;have hfz9_1:=blk_frozen BK887.out 1;have hfz9_2:=blk_frozen BK887.out 2;have hfz9_3:=blk_frozen BK887.out 3;have hcz10_0:w7.cell? ⟨gb888,0,none⟩=some (.int .i64 a1_0):=(blk_cell BK888.out 0).trans rfl;have hcz10_1:w7.cell? ⟨gb888,1,none⟩=some (.bool a1_1):=(blk_cell BK888.out 1).trans rfl;have hcz10_2:w7.cell? ⟨gb888,2,none⟩=some (.slice A1_2 l1_2.length c1_2):=(blk_cell BK888.out 2).trans rfl;have hcz10_3:w7.cell? ⟨gb888,3,none⟩=some (.slice A1_3 l1_3.length c1_3):=(blk_cell BK888.out 3).trans rfl;have hfz10_0:=blk_frozen BK888.out 0;have hfz10_1:=blk_frozen BK888.out 1;have hfz10_2:=blk_frozen BK888.out 2;have hfz10_3:=blk_frozen BK888.out 3)|((with_reducible refine gate_callee (f:=45) rfl ?_);refine goesL_ (some 14) rfl rfl Try.func45 (by kernel_rfl) rfl #[.agg #[.bool a0_1,.slice A0_2 l0_2.length c0_2,.slice A0_3 l0_3.length c0_3],.agg #[.bool a1_1,.slice A1_2 l1_2.length c1_2,.slice A1_3 l1_3.length c1_3]] rfl (by (try simp only [List.map_toArray,List.map_cons,List.map_nil]);first|done|rfl|(simp only [List.length_drop,List.length_take];rfl)) ?_;(with_reducible refine (laws_eqState.calls k a0_1 _ _ l0_2 _ _ l0_3 a1_1 _ _ l1_2 _ _ l1_3 true _ ?side1 ?side2 ?side3 ?side4 ?side5 ?side6 ?side7 ?side8 A4.out).mono ?_);(case side1=>repeat (first|exact (Kd.C_below HR0_2.out HB.out)|(with_reducible refine Kd.C_alloc ?_ _)|(with_reducible refine Kd.C_drewN ?_ _)|(with_reducible refine Kd.C_drew ?_)));(case side2=>exact HC0_2.out);(case side3=>repeat (first|exact (Kd.C_below HR0_3.out HB.out)|(with_reducible refine Kd.C_alloc ?_ _)|(with_reducible refine Kd.C_drewN ?_ _)|(with_reducible refine Kd.C_drew ?_)));(case side4=>exact HC0_3.out);(case side5=>repeat (first|exact (Kd.C_below HR1_2.out HB.out)|(with_reducible refine Kd.C_alloc ?_ _)|(with_reducible refine Kd.C_drewN ?_ _)|(with_reducible refine Kd.C_drew ?_)));(case side6=>exact HC1_2.out);(case side7=>repeat (first|exact (Kd.C_below HR1_3.out HB.out)|(with_reducible refine Kd.C_alloc ?_ _)|(with_reducible refine Kd.C_drewN ?_ _)|(with_reducible refine Kd.C_drew ?_)));(case side8=>exact HC1_3.out);rintro e w11 ⟨rfl,hb⟩;refine ⟨_,rfl,?_⟩;have n0_:=Aside0.mk (blk_below (g:=gb887) (o:=.cells #[.int .i64 a0_0,.bool a0_1,.slice A0_2 l0_2.length c0_2,.slice A0_3 l0_3.length c0_3] 48 (0,0)) (by (with_reducible repeat (first|refine blk_drewN ?_ _|refine blk_drew ?_|refine blk_alloc ?_ _));exact BK887.out) hb);have n1_:=Aside0.mk (blk_below (g:=gb888) (o:=.cells #[.int .i64 a1_0,.bool a1_1,.slice A1_2 l1_2.length c1_2,.slice A1_3 l1_3.length c1_3] 48 (0,0)) (by (with_reducible repeat (first|refine blk_drewN ?_ _|refine blk_drew ?_|refine blk_alloc ?_ _));exact BK888.out) hb);have n2_:=Aside0.mk (below_step (by repeat (first|(with_reducible first|exact HB.out|apply below_alloc|apply pw_below_drewN|apply below_drew1|refine below_set ?_ GE887.out|refine below_set ?_ GE888.out)|exact HB.out)) hb);clear BK887;clear BK888;clear HB;have BK887:=n0_;have BK888:=n1_;have HB:=n2_;clear n0_ n1_ n2_;(try clear hb);(try clear hb2);(try clear hk);(try clear hi)))
   go_ret
   exact ⟨by first|rfl|(simp [errW_none,errW_some] <;> rfl)|(simp [*,errW_none,errW_some] <;> rfl),by repeat (first|(with_reducible first|exact HB.out|apply below_alloc|apply pw_below_drewN|apply below_drew1|refine below_set ?_ GE887.out|refine below_set ?_ GE888.out)|exact HB.out)⟩
  replace c5:=Bool.eq_false_iff.mpr c5
  subst c5
  have H1:(some false)=some r:=by rw [if_neg (show ¬ (false=true) by decide)] at H;exact H
  clear H
  have H:=H1
  clear H1
  obtain rfl:=Option.some.inj H
  go_enter Try.func71,Try.ntmps71
  go_wp2_with (first|((with_reducible refine gate_dst (N:=2) rfl ?_);refine box_event ?hg (N:=2) ?hd (cs:=#[.int .i64 a0_0,.bool a0_1,.slice A0_2 l0_2.length c0_2,.slice A0_3 l0_3.length c0_3]) (t:=48) ?hr ?_;(case hd=>rfl);(case hg=>rfl);(case hr=>first|(go_simp;done)|(go_simp;rfl));intro gb887 hg w12 hbox hb;have n0_:=Aside0.mk (below_step (by repeat (first|(with_reducible first|exact HB.out|apply below_alloc|apply pw_below_drewN|apply below_drew1)|exact HB.out)) hb);have n1_:=Aside0.mk (hbox);have n2_:=Aside0.mk ((by rw [hg];exact (below_size (by repeat (first|(with_reducible first|exact HB.out|apply below_alloc|apply pw_below_drewN|apply below_drew1)|exact HB.out))):w.heap.size≤gb887));have n3_:=Aside0.mk ((by rw [hg];exact (below_size (by repeat (first|(with_reducible first|exact HB.out|apply below_alloc|apply pw_below_drewN|apply below_drew1)|exact HB.out))):w.heap.size≤gb887));clear HB;have HB:=n0_;have BK887:=n1_;have GW887:=n2_;have GE887:=n3_;clear n0_ n1_ n2_ n3_;clear hb hbox hg)|((with_reducible refine gate_dst (N:=3) rfl ?_);refine box_event ?hg (N:=3) ?hd (cs:=#[.int .i64 a1_0,.bool a1_1,.slice A1_2 l1_2.length c1_2,.slice A1_3 l1_3.length c1_3]) (t:=48) ?hr ?_;(case hd=>rfl);(case hg=>rfl);(case hr=>first|(go_simp;done)|(go_simp;rfl));intro gb888 hg w13 hbox hb;have n0_:=Aside0.mk (blk_below (g:=gb887) (o:=.cells #[.int .i64 a0_0,.bool a0_1,.slice A0_2 l0_2.length c0_2,.slice A0_3 l0_3.length c0_3] 48 (0,0)) (by (with_reducible repeat (first|refine blk_drewN ?_ _|refine blk_drew ?_|refine blk_alloc ?_ _));exact BK887.out) hb);have n1_:=Aside0.mk (below_step (by repeat (first|(with_reducible first|exact HB.out|apply below_alloc|apply pw_below_drewN|apply below_drew1|refine below_set ?_ GE887.out)|exact HB.out)) hb);have n2_:=Aside0.mk (hbox);have n3_:=Aside0.mk ((by rw [hg];exact (below_size (by repeat (first|(with_reducible first|exact HB.out|apply below_alloc|apply pw_below_drewN|apply below_drew1|refine below_set ?_ GE887.out)|exact HB.out))):w.heap.size≤gb888));have n4_:=Aside0.mk ((by rw [hg];exact (below_size (by repeat (first|(with_reducible first|exact HB.out|apply below_alloc|apply pw_below_drewN|apply below_drew1|refine below_set ?_ GE887.out)|exact HB.out))):w.heap.size≤gb888));have n5_:=Aside0.mk ((by rw [hg];exact Nat.ne_of_lt (blk_lt (g:=gb887) (o:=.cells #[.int .i64 a0_0,.bool a0_1,.slice A0_2 l0_2.length c0_2,.slice A0_3 l0_3.length c0_3] 48 (0,0)) (by (with_reducible repeat (first|refine blk_drewN ?_ _|refine blk_drew ?_|refine blk_alloc ?_ _));exact BK887.out)):gb887 ≠ gb888));have n6_:=Aside0.mk ((by rw [hg];exact Nat.ne_of_gt (blk_lt (g:=gb887) (o:=.cells #[.int .i64 a0_0,.bool a0_1,.slice A0_2 l0_2.length c0_2,.slice A0_3 l0_3.length c0_3] 48 (0,0)) (by (with_reducible repeat (first|refine blk_drewN ?_ _|refine blk_drew ?_|refine blk_alloc ?_ _));exact BK887.out)):gb888 ≠ gb887));clear BK887;clear HB;have BK887:=n0_;have HB:=n1_;have BK888:=n2_;have GW888:=n3_;have GE888:=n4_;have NB887_888:=n5_;have NB888_887:=n6_;clear n0_ n1_ n2_ n3_ n4_ n5_ n6_;clear hb hbox hg;have hnb14:=NB887_888.out;have hnc14:=NB888_887.out;have hcz15_0:w13.cell? ⟨gb887,0,none⟩=some (.int .i64 a0_0):=(blk_cell BK887.out 0).trans rfl;have hcz15_1:w13.cell? ⟨gb887,1,none⟩=some (.bool a0_1):=(blk_cell BK887.out 1).trans rfl;have hcz15_2:w13.cell? ⟨gb887,2,none⟩=some (.slice A0_2 l0_2.length c0_2):=(blk_cell BK887.out 2).trans rfl;have hcz15_3:w13.cell? ⟨gb887,3,none⟩=some (.slice A0_3 l0_3.length c0_3):=(blk_cell BK887.out 3).trans rfl;have hfz15_0:=blk_frozen BK887.out 0;have hfz15_1:=blk_frozen BK887.out 1;have hfz15_2:=blk_frozen BK887.out 2;have hfz15_3:=blk_frozen BK887.out 3;have hcz16_0:w13.cell? ⟨gb888,0,none⟩=some (.int .i64 a1_0):=(blk_cell BK888.out 0).trans rfl;have hcz16_1:w13.cell? ⟨gb888,1,none⟩=some (.bool a1_1):=(blk_cell BK888.out 1).trans rfl;have hcz16_2:w13.cell? ⟨gb888,2,none⟩=some (.slice A1_2 l1_2.length c1_2):=(blk_cell BK888.out 2).trans rfl;have hcz16_3:w13.cell? ⟨gb888,3,none⟩=some (.slice A1_3 l1_3.length c1_3):=(blk_cell BK888.out 3).trans rfl;have hfz16_0:=blk_frozen BK888.out 0;have hfz16_1:=blk_frozen BK888.out 1;have hfz16_2:=blk_frozen BK888.out 2;have hfz16_3:=blk_frozen BK888.out 3)|((with_reducible refine gate_callee (f:=45) rfl ?_);refine goesL_ (some 14) rfl rfl Try.func45 (by kernel_rfl) rfl #[.agg #[.bool a0_1,.slice A0_2 l0_2.length c0_2,.slice A0_3 l0_3.length c0_3],.agg #[.bool a1_1,.slice A1_2 l1_2.length c1_2,.slice A1_3 l1_3.length c1_3]] rfl (by (try simp only [List.map_toArray,List.map_cons,List.map_nil]);first|done|rfl|(simp only [List.length_drop,List.length_take];rfl)) ?_;(with_reducible refine (laws_eqState.calls k a0_1 _ _ l0_2 _ _ l0_3 a1_1 _ _ l1_2 _ _ l1_3 false _ ?side1 ?side2 ?side3 ?side4 ?side5 ?side6 ?side7 ?side8 A4.out).mono ?_);(case side1=>repeat (first|exact (Kd.C_below HR0_2.out HB.out)|(with_reducible refine Kd.C_alloc ?_ _)|(with_reducible refine Kd.C_drewN ?_ _)|(with_reducible refine Kd.C_drew ?_)));(case side2=>exact HC0_2.out);(case side3=>repeat (first|exact (Kd.C_below HR0_3.out HB.out)|(with_reducible refine Kd.C_alloc ?_ _)|(with_reducible refine Kd.C_drewN ?_ _)|(with_reducible refine Kd.C_drew ?_)));(case side4=>exact HC0_3.out);(case side5=>repeat (first|exact (Kd.C_below HR1_2.out HB.out)|(with_reducible refine Kd.C_alloc ?_ _)|(with_reducible refine Kd.C_drewN ?_ _)|(with_reducible refine Kd.C_drew ?_)));(case side6=>exact HC1_2.out);(case side7=>repeat (first|exact (Kd.C_below HR1_3.out HB.out)|(with_reducible refine Kd.C_alloc ?_ _)|(with_reducible refine Kd.C_drewN ?_ _)|(with_reducible refine Kd.C_drew ?_)));(case side8=>exact HC1_3.out);rintro e w17 ⟨rfl,hb⟩;refine ⟨_,rfl,?_⟩;have n0_:=Aside0.mk (blk_below (g:=gb887) (o:=.cells #[.int .i64 a0_0,.bool a0_1,.slice A0_2 l0_2.length c0_2,.slice A0_3 l0_3.length c0_3] 48 (0,0)) (by (with_reducible repeat (first|refine blk_drewN ?_ _|refine blk_drew ?_|refine blk_alloc ?_ _));exact BK887.out) hb);have n1_:=Aside0.mk (blk_below (g:=gb888) (o:=.cells #[.int .i64 a1_0,.bool a1_1,.slice A1_2 l1_2.length c1_2,.slice A1_3 l1_3.length c1_3] 48 (0,0)) (by (with_reducible repeat (first|refine blk_drewN ?_ _|refine blk_drew ?_|refine blk_alloc ?_ _));exact BK888.out) hb);have n2_:=Aside0.mk (below_step (by repeat (first|(with_reducible first|exact HB.out|apply below_alloc|apply pw_below_drewN|apply below_drew1|refine below_set ?_ GE887.out|refine below_set ?_ GE888.out)|exact HB.out)) hb);clear BK887;clear BK888;clear HB;have BK887:=n0_;have BK888:=n1_;have HB:=n2_;clear n0_ n1_ n2_;(try clear hb);(try clear hb2);(try clear hk);(try clear hi)))
  go_ret
  exact ⟨by first|rfl|(simp [errW_none,errW_some] <;> rfl)|(simp [*,errW_none,errW_some] <;> rfl),by repeat (first|(with_reducible first|exact HB.out|apply below_alloc|apply pw_below_drewN|apply below_drew1|refine below_set ?_ GE887.out|refine below_set ?_ GE888.out)|exact HB.out)⟩
 rw [if_neg c3] at H
 have c3b0:(a0_0==a1_0)=false:=beq_eq_false_iff_ne.mpr c3
 have c3b1:(a0_0 != a1_0)=true:=bne_iff_ne.mpr c3
 obtain rfl:=Option.some.inj H
 go_enter Try.func71,Try.ntmps71
 go_wp2_with (first|((with_reducible refine gate_dst (N:=2) rfl ?_);refine box_event ?hg (N:=2) ?hd (cs:=#[.int .i64 a0_0,.bool a0_1,.slice A0_2 l0_2.length c0_2,.slice A0_3 l0_3.length c0_3]) (t:=48) ?hr ?_;(case hd=>rfl);(case hg=>rfl);(case hr=>first|(go_simp;done)|(go_simp;rfl));intro gb887 hg w18 hbox hb;have n0_:=Aside0.mk (below_step (by repeat (first|(with_reducible first|exact HB.out|apply below_alloc|apply pw_below_drewN|apply below_drew1)|exact HB.out)) hb);have n1_:=Aside0.mk (hbox);have n2_:=Aside0.mk ((by rw [hg];exact (below_size (by repeat (first|(with_reducible first|exact HB.out|apply below_alloc|apply pw_below_drewN|apply below_drew1)|exact HB.out))):w.heap.size≤gb887));have n3_:=Aside0.mk ((by rw [hg];exact (below_size (by repeat (first|(with_reducible first|exact HB.out|apply below_alloc|apply pw_below_drewN|apply below_drew1)|exact HB.out))):w.heap.size≤gb887));clear HB;have HB:=n0_;have BK887:=n1_;have GW887:=n2_;have GE887:=n3_;clear n0_ n1_ n2_ n3_;clear hb hbox hg)|((with_reducible refine gate_dst (N:=3) rfl ?_);refine box_event ?hg (N:=3) ?hd (cs:=#[.int .i64 a1_0,.bool a1_1,.slice A1_2 l1_2.length c1_2,.slice A1_3 l1_3.length c1_3]) (t:=48) ?hr ?_;(case hd=>rfl);(case hg=>rfl);(case hr=>first|(go_simp;done)|(go_simp;rfl));intro gb888 hg w19 hbox hb;have n0_:=Aside0.mk (blk_below (g:=gb887) (o:=.cells #[.int .i64 a0_0,.bool a0_1,.slice A0_2 l0_2.length c0_2,.slice A0_3 l0_3.length c0_3] 48 (0,0)) (by (with_reducible repeat (first|refine blk_drewN ?_ _|refine blk_drew ?_|refine blk_alloc ?_ _));exact BK887.out) hb);have n1_:=Aside0.mk (below_step (by repeat (first|(with_reducible first|exact HB.out|apply below_alloc|apply pw_below_drewN|apply below_drew1|refine below_set ?_ GE887.out)|exact HB.out)) hb);have n2_:=Aside0.mk (hbox);have n3_:=Aside0.mk ((by rw [hg];exact (below_size (by repeat (first|(with_reducible first|exact HB.out|apply below_alloc|apply pw_below_drewN|apply below_drew1|refine below_set ?_ GE887.out)|exact HB.out))):w.heap.size≤gb888));have n4_:=Aside0.mk ((by rw [hg];exact (below_size (by repeat (first|(with_reducible first|exact HB.out|apply below_alloc|apply pw_below_drewN|apply below_drew1|refine below_set ?_ GE887.out)|exact HB.out))):w.heap.size≤gb888));have n5_:=Aside0.mk ((by rw [hg];exact Nat.ne_of_lt (blk_lt (g:=gb887) (o:=.cells #[.int .i64 a0_0,.bool a0_1,.slice A0_2 l0_2.length c0_2,.slice A0_3 l0_3.length c0_3] 48 (0,0)) (by (with_reducible repeat (first|refine blk_drewN ?_ _|refine blk_drew ?_|refine blk_alloc ?_ _));exact BK887.out)):gb887 ≠ gb888));have n6_:=Aside0.mk ((by rw [hg];exact Nat.ne_of_gt (blk_lt (g:=gb887) (o:=.cells #[.int .i64 a0_0,.bool a0_1,.slice A0_2 l0_2.length c0_2,.slice A0_3 l0_3.length c0_3] 48 (0,0)) (by (with_reducible repeat (first|refine blk_drewN ?_ _|refine blk_drew ?_|refine blk_alloc ?_ _));exact BK887.out)):gb888 ≠ gb887));clear BK887;clear HB;have BK887:=n0_;have HB:=n1_;have BK888:=n2_;have GW888:=n3_;have GE888:=n4_;have NB887_888:=n5_;have NB888_887:=n6_;clear n0_ n1_ n2_ n3_ n4_ n5_ n6_;clear hb hbox hg;have hnb20:=NB887_888.out;have hnc20:=NB888_887.out;have hcz21_0:w19.cell? ⟨gb887,0,none⟩=some (.int .i64 a0_0):=(blk_cell BK887.out 0).trans rfl;have hcz21_1:w19.cell? ⟨gb887,1,none⟩=some (.bool a0_1):=(blk_cell BK887.out 1).trans rfl;have hcz21_2:w19.cell? ⟨gb887,2,none⟩=some (.slice A0_2 l0_2.length c0_2):=(blk_cell BK887.out 2).trans rfl;have hcz21_3:w19.cell? ⟨gb887,3,none⟩=some (.slice A0_3 l0_3.length c0_3):=(blk_cell BK887.out 3).trans rfl;have hfz21_0:=blk_frozen BK887.out 0;have hfz21_1:=blk_frozen BK887.out 1;have hfz21_2:=blk_frozen BK887.out 2;have hfz21_3:=blk_frozen BK887.out 3;have hcz22_0:w19.cell? ⟨gb888,0,none⟩=some (.int .i64 a1_0):=(blk_cell BK888.out 0).trans rfl;have hcz22_1:w19.cell? ⟨gb888,1,none⟩=some (.bool a1_1):=(blk_cell BK888.out 1).trans rfl;have hcz22_2:w19.cell? ⟨gb888,2,none⟩=some (.slice A1_2 l1_2.length c1_2):=(blk_cell BK888.out 2).trans rfl;have hcz22_3:w19.cell? ⟨gb888,3,none⟩=some (.slice A1_3 l1_3.length c1_3):=(blk_cell BK888.out 3).trans rfl;have hfz22_0:=blk_frozen BK888.out 0;have hfz22_1:=blk_frozen BK888.out 1;have hfz22_2:=blk_frozen BK888.out 2;have hfz22_3:=blk_frozen BK888.out 3))
 go_ret
 exact ⟨by first|rfl|(simp [errW_none,errW_some] <;> rfl)|(simp [*,errW_none,errW_some] <;> rfl),by repeat (first|(with_reducible first|exact HB.out|apply below_alloc|apply pw_below_drewN|apply below_drew1|refine below_set ?_ GE887.out|refine below_set ?_ GE888.out)|exact HB.out)⟩
end Go.Proofs.Ytpdnabhpkdchjaa.P
namespace Go.Proofs.Ytpdnabhpkdchjaa.P
open Go.RowKit Go.Proofs.YtpdnabhpkdchjaaW.PrintWords Go.Proofs.YtpdnabhpkdchjaaW.PrintLast Go.Proofs.YtpdnabhpkdchjaaW.PrintMore
attribute [local go_sem] max2_int min2_int max_two min_two max_three min_three max_four min_four
set_option linter.unusedVariables false
set_option linter.unusedSimpArgs false
def laws_markDone.f (k:Nat) (a0_0:Int) (a0_1:Bool) (l0_2:List (S50)) (l0_3:List Bool) (a1:Int):Option (Int × (List (S50)) × List Bool):=(laws_markState.f k a0_1 l0_2 l0_3 a1).bind fun bt891=>(some (bt891.1,bt891.2.1,bt891.2.2))
set_option maxHeartbeats 8000000 in
set_option maxRecDepth 100000 in
theorem laws_markDone.calls (k:Nat) (a0_0:Int) (a0_1:Bool) (P0_2_:Nat→Prop) (u9000_:Value) (l0_2:List (S50)) (P0_3_:Nat→Prop) (u9001_:Value) (l0_3:List Bool) (a1:Int) (r1:Int) (r2:List (S50)) (r3:List Bool) (w0 w:World) (hB:Below w0.heap.size w0 w) (ho0_2:Kd.R k50 50 w w0.heap.size P0_2_ u9000_ l0_2) (ho0_3:Kd.R Kd.bool 4 w w0.heap.size P0_3_ u9001_ l0_3) (h:laws_markDone.f k a0_0 a0_1 l0_2 l0_3 a1=some (r1,r2,r3)) :
  Calls Try.prog 72 #[.agg #[.int .i64 a0_0,.bool a0_1,u9000_,u9001_],.int .i64 a1] w fun e w'=>e=.returned (.int .i64 r1)∧Kd.R k50 50 w' w0.heap.size (fun k_=>((P0_2_ k_ ∨ P0_3_ k_) ∨ w.heap.size≤k_)) u9000_ r2∧Kd.R Kd.bool 4 w' w0.heap.size (fun k_=>((P0_2_ k_ ∨ P0_3_ k_) ∨ w.heap.size≤k_)) u9001_ r3∧Below w0.heap.size w0 w'∧Kept w w' (fun k_=>P0_2_ k_ ∨ P0_3_ k_):=by
 have hu48:=Try.underlying48
 have hu46:=Try.underlying46
 have HO0_2:=Aside0.mk (show Kd.R k50 50 w w0.heap.size (fun k_=>((P0_2_ k_ ∨ P0_3_ k_) ∨ w.heap.size≤k_)) u9000_ l0_2 from Kd.R_mono ho0_2 (fun k_ hk=>(.inl (.inl hk))))
 have HO0_3:=Aside0.mk (show Kd.R Kd.bool 4 w w0.heap.size (fun k_=>((P0_2_ k_ ∨ P0_3_ k_) ∨ w.heap.size≤k_)) u9001_ l0_3 from Kd.R_mono ho0_3 (fun k_ hk=>(.inl (.inr hk))))
 have HK:=Aside0.mk (Kept.refl w (fun k_=>P0_2_ k_ ∨ P0_3_ k_))
 have HW0:=Aside0.mk hB.size
 have HB:=Aside0.mk hB
 clear hB
 have H:((laws_markState.f k a0_1 l0_2 l0_3 a1).bind fun bt891=>(some (bt891.1,bt891.2.1,bt891.2.2)))=some (r1,r2,r3):=h
 clear h
 replace H:=Option.bind_eq_some_iff.mp H
 obtain ⟨⟨t891,t892,t893⟩,A30,H⟩:=H
 replace H:(some (t891,t892,t893))=some (r1,r2,r3):=H
 have A3:=Aside0.mk A30
 clear A30
 simp only [Option.some.injEq,Prod.mk.injEq] at H
 obtain ⟨rfl,rfl,rfl⟩:=H
 obtain ⟨Ao4,co4,eo4⟩:=Kd.R_slice HO0_2.out
 subst eo4
 obtain ⟨Ao5,co5,eo5⟩:=Kd.R_slice HO0_3.out
 subst eo5
 go_enter Try.func72,Try.ntmps72
 go_wp2_with (first|((with_reducible refine gate_dst (N:=2) rfl ?_);refine box_event ?hg (N:=2) ?hd (cs:=#[.int .i64 a0_0,.bool a0_1,.slice Ao4 l0_2.length co4,.slice Ao5 l0_3.length co5]) (t:=48) ?hr ?_;(case hd=>rfl);(case hg=>rfl);(case hr=>first|(go_simp;done)|(go_simp;rfl));intro gb890 hg w6 hbox hb;have n0_:=Aside0.mk (Kd.R_below (by (with_reducible repeat (first|apply Kd.R_alloc|apply Kd.R_drewN|apply Kd.R_drew));exact HO0_2.out) hb);have n1_:=Aside0.mk (Kd.R_below (by (with_reducible repeat (first|apply Kd.R_alloc|apply Kd.R_drewN|apply Kd.R_drew));exact HO0_3.out) hb);have n2_:=Aside0.mk (Kept.below (S:=(fun k_=>P0_2_ k_ ∨ P0_3_ k_)) (by repeat (first|(with_reducible first|exact HK.out|apply Kept.alloc|apply Kept.drewN|apply Kept.drew)|exact HK.out)) hb);have n3_:=Aside0.mk (below_step (by repeat (first|(with_reducible first|exact HB.out|apply below_alloc|apply pw_below_drewN|apply below_drew1)|exact HB.out)) hb);have n4_:=Aside0.mk (hbox);have n5_:=Aside0.mk ((by rw [hg];exact (by first|exact HK.out.1|exact (show Kept w _ (fun k_=>P0_2_ k_ ∨ P0_3_ k_) from by repeat (first|(with_reducible first|exact HK.out|apply Kept.alloc|apply Kept.drewN|apply Kept.drew)|exact HK.out)).1):w.heap.size≤gb890));have n6_:=Aside0.mk ((by rw [hg];exact (below_size (by repeat (first|(with_reducible first|exact HB.out|apply below_alloc|apply pw_below_drewN|apply below_drew1)|exact HB.out))):w0.heap.size≤gb890));clear HO0_2;clear HO0_3;clear HK;clear HB;have HO0_2:=n0_;have HO0_3:=n1_;have HK:=n2_;have HB:=n3_;have BK890:=n4_;have GW890:=n5_;have GE890:=n6_;clear n0_ n1_ n2_ n3_ n4_ n5_ n6_;clear hb hbox hg;have hcz7_0:w6.cell? ⟨gb890,0,none⟩=some (.int .i64 a0_0):=(blk_cell BK890.out 0).trans rfl;have hcz7_1:w6.cell? ⟨gb890,1,none⟩=some (.bool a0_1):=(blk_cell BK890.out 1).trans rfl;have hcz7_2:w6.cell? ⟨gb890,2,none⟩=some (.slice Ao4 l0_2.length co4):=(blk_cell BK890.out 2).trans rfl;have hcz7_3:w6.cell? ⟨gb890,3,none⟩=some (.slice Ao5 l0_3.length co5):=(blk_cell BK890.out 3).trans rfl;have hfz7_0:=blk_frozen BK890.out 0;have hfz7_1:=blk_frozen BK890.out 1;have hfz7_2:=blk_frozen BK890.out 2;have hfz7_3:=blk_frozen BK890.out 3)|((with_reducible refine gate_callee (f:=46) rfl ?_);refine goesL_ (some 8) rfl rfl Try.func46 (by kernel_rfl) rfl #[.agg #[.bool a0_1,.slice Ao4 l0_2.length co4,.slice Ao5 l0_3.length co5],.int .i64 a1] rfl (by (try simp only [List.map_toArray,List.map_cons,List.map_nil]);first|done|rfl|(simp only [List.length_drop,List.length_take];rfl)) ?_;(with_reducible refine (laws_markState.calls k a0_1 (fun k_=>some k_=(.slice Ao4 l0_2.length co4:Value).ownBlock) (.slice Ao4 l0_2.length co4) l0_2 (fun k_=>some k_=(.slice Ao5 l0_3.length co5:Value).ownBlock) (.slice Ao5 l0_3.length co5) l0_3 a1 t891 t892 t893 w0 _ ?side1 ?side2 ?side3 A3.out).mono ?_);(case side1=>repeat (first|(with_reducible first|exact HB.out|apply below_alloc|apply pw_below_drewN|apply below_drew1|refine below_set ?_ GE890.out)|exact HB.out));(case side2=>exact Kd.R_tight rfl HO0_2.out);(case side3=>exact Kd.R_tight rfl HO0_3.out);rintro e w8 ⟨rfl,hy0,hy1,hb,hkp⟩;refine ⟨_,rfl,?_⟩;have n0_:=Aside0.mk (Kd.R_reok rfl hy0 (fun k_ e_=>HO0_2.out.1 k_ e_));have n1_:=Aside0.mk (Kd.R_reok rfl hy1 (fun k_ e_=>HO0_3.out.1 k_ e_));have n2_:=Aside0.mk (blk_kept (by (with_reducible repeat (first|refine blk_drewN ?_ _|refine blk_drew ?_|refine blk_alloc ?_ _));exact BK890.out) hkp (fun hs_=>Or.elim hs_ (fun e_=>(fun e_=>(Kd.R_ne HO0_2.out BK890.out (by decide)) e_) e_) (fun e_=>(fun e_=>(Kd.R_ne HO0_3.out BK890.out (by decide)) e_) e_)));have n3_:=Aside0.mk (Kept.then_ (S:=(fun k_=>P0_2_ k_ ∨ P0_3_ k_)) (by repeat (first|(with_reducible first|exact HK.out|apply Kept.alloc|apply Kept.drewN|apply Kept.drew|refine Kept.setCell ?_ (.inr GW890.out) _)|exact HK.out)) hkp (fun k_ hs_=>Or.elim hs_ (fun e_=>(fun e_=>(HO0_2.out.1 k_ e_.symm)) e_) (fun e_=>(fun e_=>(HO0_3.out.1 k_ e_.symm)) e_)));have n4_:=Aside0.mk (hb);clear HO0_2;clear HO0_3;clear BK890;clear HK;clear HB;have HO0_2:=n0_;have HO0_3:=n1_;have BK890:=n2_;have HK:=n3_;have HB:=n4_;clear n0_ n1_ n2_ n3_ n4_;(try clear hb);(try clear hkp);(try clear hy0);(try clear hy1)))
 go_ret
 exact ⟨by first|rfl|(simp [errW_none,errW_some] <;> rfl)|(simp [*,errW_none,errW_some] <;> rfl),by (with_reducible repeat (first|apply Kd.R_alloc|apply Kd.R_drewN|apply Kd.R_drew));exact HO0_2.out,by (with_reducible repeat (first|apply Kd.R_alloc|apply Kd.R_drewN|apply Kd.R_drew));exact HO0_3.out,by repeat (first|(with_reducible first|exact HB.out|apply below_alloc|apply pw_below_drewN|apply below_drew1|refine below_set ?_ GE890.out)|exact HB.out),by repeat (first|(with_reducible first|exact HK.out|apply Kept.alloc|apply Kept.drewN|apply Kept.drew|refine Kept.setCell ?_ (.inr GW890.out) _)|exact HK.out)⟩
end Go.Proofs.Ytpdnabhpkdchjaa.P
namespace Go.Proofs.Ytpdnabhpkdchjaa.P
open Go.RowKit Go.Proofs.YtpdnabhpkdchjaaW.PrintWords Go.Proofs.YtpdnabhpkdchjaaW.PrintLast Go.Proofs.YtpdnabhpkdchjaaW.PrintMore
attribute [local go_sem] max2_int min2_int max_two min_two max_three min_three max_four min_four
set_option linter.unusedVariables false
set_option linter.unusedSimpArgs false
def laws_heldDone.f (k:Nat) (a0_0:Int) (a0_1:Bool) (l0_2:List (S50)) (l0_3:List Bool) (a1:Int):Option (Int):=(laws_heldState.f k a0_1 l0_2 l0_3 a1).bind fun t895=>(if t895<0 then (some (-1)) else (some t895))
set_option maxHeartbeats 8000000 in
set_option maxRecDepth 100000 in
theorem laws_heldDone.calls (k:Nat) (a0_0:Int) (a0_1:Bool) (A0_2:Option Addr) (c0_2:Nat) (l0_2:List (S50)) (A0_3:Option Addr) (c0_3:Nat) (l0_3:List Bool) (a1:Int) (r:Int) (w:World) (hr0_2:Kd.C k50 w A0_2 l0_2.length l0_2) (hc0_2:l0_2.length≤c0_2) (hr0_3:Kd.C Kd.bool w A0_3 l0_3.length l0_3) (hc0_3:l0_3.length≤c0_3) (h:laws_heldDone.f k a0_0 a0_1 l0_2 l0_3 a1=some r) :
  Calls Try.prog 73 #[.agg #[.int .i64 a0_0,.bool a0_1,.slice A0_2 l0_2.length c0_2,.slice A0_3 l0_3.length c0_3],.int .i64 a1] w fun e w'=>e=.returned (.int .i64 r)∧Below w.heap.size w w':=by
 have hu48:=Try.underlying48
 have hu46:=Try.underlying46
 have HR0_2:=Aside0.mk hr0_2
 have HC0_2:=Aside0.mk hc0_2
 clear hr0_2 hc0_2
 have HR0_3:=Aside0.mk hr0_3
 have HC0_3:=Aside0.mk hc0_3
 clear hr0_3 hc0_3
 have HB:=Aside0.mk (Below.refl w.heap.size w)
 have H:((laws_heldState.f k a0_1 l0_2 l0_3 a1).bind fun t895=>(if t895<0 then (some (-1)) else (some t895)))=some r:=h
 clear h
 replace H:=Option.bind_eq_some_iff.mp H
 obtain ⟨t895,A30,H⟩:=H
 replace H:(if t895<0 then (some (-1)) else (some t895))=some r:=H
 have A3:=Aside0.mk A30
 clear A30
 by_cases c4:t895<0
 ·rw [if_pos c4] at H
  have c4b0:decide (t895<0)=true:=decide_eq_true c4
  clear c4
  obtain rfl:=Option.some.inj H
  go_enter Try.func73,Try.ntmps73
  go_wp2_with (first|((with_reducible refine gate_dst (N:=2) rfl ?_);refine box_event ?hg (N:=2) ?hd (cs:=#[.int .i64 a0_0,.bool a0_1,.slice A0_2 l0_2.length c0_2,.slice A0_3 l0_3.length c0_3]) (t:=48) ?hr ?_;(case hd=>rfl);(case hg=>rfl);(case hr=>first|(go_simp;done)|(go_simp;rfl));intro gb894 hg w5 hbox hb;have n0_:=Aside0.mk (below_step (by repeat (first|(with_reducible first|exact HB.out|apply below_alloc|apply pw_below_drewN|apply below_drew1)|exact HB.out)) hb);have n1_:=Aside0.mk (hbox);have n2_:=Aside0.mk ((by rw [hg];exact (below_size (by repeat (first|(with_reducible first|exact HB.out|apply below_alloc|apply pw_below_drewN|apply below_drew1)|exact HB.out))):w.heap.size≤gb894));have n3_:=Aside0.mk ((by rw [hg];exact (below_size (by repeat (first|(with_reducible first|exact HB.out|apply below_alloc|apply pw_below_drewN|apply below_drew1)|exact HB.out))):w.heap.size≤gb894));clear HB;have HB:=n0_;have BK894:=n1_;have GW894:=n2_;have GE894:=n3_;clear n0_ n1_ n2_ n3_;clear hb hbox hg;have hcz6_0:w5.cell? ⟨gb894,0,none⟩=some (.int .i64 a0_0):=(blk_cell BK894.out 0).trans rfl;have hcz6_1:w5.cell? ⟨gb894,1,none⟩=some (.bool a0_1):=(blk_cell BK894.out 1).trans rfl;have hcz6_2:w5.cell? ⟨gb894,2,none⟩=some (.slice A0_2 l0_2.length c0_2):=(blk_cell BK894.out 2).trans rfl;have hcz6_3:w5.cell? ⟨gb894,3,none⟩=some (.slice A0_3 l0_3.length c0_3):=(blk_cell BK894.out 3).trans rfl;have hfz6_0:=blk_frozen BK894.out 0;have hfz6_1:=blk_frozen BK894.out 1;have hfz6_2:=blk_frozen BK894.out 2;have hfz6_3:=blk_frozen BK894.out 3)|((with_reducible refine gate_callee (f:=47) rfl ?_);refine goesL_ (some 8) rfl rfl Try.func47 (by kernel_rfl) rfl #[.agg #[.bool a0_1,.slice A0_2 l0_2.length c0_2,.slice A0_3 l0_3.length c0_3],.int .i64 a1] rfl (by (try simp only [List.map_toArray,List.map_cons,List.map_nil]);first|done|rfl|(simp only [List.length_drop,List.length_take];rfl)) ?_;(with_reducible refine (laws_heldState.calls k a0_1 _ _ l0_2 _ _ l0_3 a1 t895 _ ?side1 ?side2 ?side3 ?side4 A3.out).mono ?_);(case side1=>repeat (first|exact (Kd.C_below HR0_2.out HB.out)|(with_reducible refine Kd.C_alloc ?_ _)|(with_reducible refine Kd.C_drewN ?_ _)|(with_reducible refine Kd.C_drew ?_)));(case side2=>exact HC0_2.out);(case side3=>repeat (first|exact (Kd.C_below HR0_3.out HB.out)|(with_reducible refine Kd.C_alloc ?_ _)|(with_reducible refine Kd.C_drewN ?_ _)|(with_reducible refine Kd.C_drew ?_)));(case side4=>exact HC0_3.out);rintro e w7 ⟨rfl,hb⟩;refine ⟨_,rfl,?_⟩;have n0_:=Aside0.mk (blk_below (g:=gb894) (o:=.cells #[.int .i64 a0_0,.bool a0_1,.slice A0_2 l0_2.length c0_2,.slice A0_3 l0_3.length c0_3] 48 (0,0)) (by (with_reducible repeat (first|refine blk_drewN ?_ _|refine blk_drew ?_|refine blk_alloc ?_ _));exact BK894.out) hb);have n1_:=Aside0.mk (below_step (by repeat (first|(with_reducible first|exact HB.out|apply below_alloc|apply pw_below_drewN|apply below_drew1|refine below_set ?_ GE894.out)|exact HB.out)) hb);clear BK894;clear HB;have BK894:=n0_;have HB:=n1_;clear n0_ n1_;(try clear hb);(try clear hb2);(try clear hk);(try clear hi)))
  go_ret
  exact ⟨by first|rfl|(simp [errW_none,errW_some] <;> rfl)|(simp [*,errW_none,errW_some] <;> rfl),by repeat (first|(with_reducible first|exact HB.out|apply below_alloc|apply pw_below_drewN|apply below_drew1|refine below_set ?_ GE894.out)|exact HB.out)⟩
 rw [if_neg c4] at H
 have c4b0:decide (t895<0)=false:=decide_eq_false c4
 clear c4
 obtain rfl:=Option.some.inj H
 go_enter Try.func73,Try.ntmps73
 go_wp2_with (first|((with_reducible refine gate_dst (N:=2) rfl ?_);refine box_event ?hg (N:=2) ?hd (cs:=#[.int .i64 a0_0,.bool a0_1,.slice A0_2 l0_2.length c0_2,.slice A0_3 l0_3.length c0_3]) (t:=48) ?hr ?_;(case hd=>rfl);(case hg=>rfl);(case hr=>first|(go_simp;done)|(go_simp;rfl));intro gb894 hg w8 hbox hb;have n0_:=Aside0.mk (below_step (by repeat (first|(with_reducible first|exact HB.out|apply below_alloc|apply pw_below_drewN|apply below_drew1)|exact HB.out)) hb);have n1_:=Aside0.mk (hbox);have n2_:=Aside0.mk ((by rw [hg];exact (below_size (by repeat (first|(with_reducible first|exact HB.out|apply below_alloc|apply pw_below_drewN|apply below_drew1)|exact HB.out))):w.heap.size≤gb894));have n3_:=Aside0.mk ((by rw [hg];exact (below_size (by repeat (first|(with_reducible first|exact HB.out|apply below_alloc|apply pw_below_drewN|apply below_drew1)|exact HB.out))):w.heap.size≤gb894));clear HB;have HB:=n0_;have BK894:=n1_;have GW894:=n2_;have GE894:=n3_;clear n0_ n1_ n2_ n3_;clear hb hbox hg;have hcz9_0:w8.cell? ⟨gb894,0,none⟩=some (.int .i64 a0_0):=(blk_cell BK894.out 0).trans rfl;have hcz9_1:w8.cell? ⟨gb894,1,none⟩=some (.bool a0_1):=(blk_cell BK894.out 1).trans rfl;have hcz9_2:w8.cell? ⟨gb894,2,none⟩=some (.slice A0_2 l0_2.length c0_2):=(blk_cell BK894.out 2).trans rfl;have hcz9_3:w8.cell? ⟨gb894,3,none⟩=some (.slice A0_3 l0_3.length c0_3):=(blk_cell BK894.out 3).trans rfl;have hfz9_0:=blk_frozen BK894.out 0;have hfz9_1:=blk_frozen BK894.out 1;have hfz9_2:=blk_frozen BK894.out 2;have hfz9_3:=blk_frozen BK894.out 3)|((with_reducible refine gate_callee (f:=47) rfl ?_);refine goesL_ (some 8) rfl rfl Try.func47 (by kernel_rfl) rfl #[.agg #[.bool a0_1,.slice A0_2 l0_2.length c0_2,.slice A0_3 l0_3.length c0_3],.int .i64 a1] rfl (by (try simp only [List.map_toArray,List.map_cons,List.map_nil]);first|done|rfl|(simp only [List.length_drop,List.length_take];rfl)) ?_;(with_reducible refine (laws_heldState.calls k a0_1 _ _ l0_2 _ _ l0_3 a1 t895 _ ?side1 ?side2 ?side3 ?side4 A3.out).mono ?_);(case side1=>repeat (first|exact (Kd.C_below HR0_2.out HB.out)|(with_reducible refine Kd.C_alloc ?_ _)|(with_reducible refine Kd.C_drewN ?_ _)|(with_reducible refine Kd.C_drew ?_)));(case side2=>exact HC0_2.out);(case side3=>repeat (first|exact (Kd.C_below HR0_3.out HB.out)|(with_reducible refine Kd.C_alloc ?_ _)|(with_reducible refine Kd.C_drewN ?_ _)|(with_reducible refine Kd.C_drew ?_)));(case side4=>exact HC0_3.out);rintro e w10 ⟨rfl,hb⟩;refine ⟨_,rfl,?_⟩;have n0_:=Aside0.mk (blk_below (g:=gb894) (o:=.cells #[.int .i64 a0_0,.bool a0_1,.slice A0_2 l0_2.length c0_2,.slice A0_3 l0_3.length c0_3] 48 (0,0)) (by (with_reducible repeat (first|refine blk_drewN ?_ _|refine blk_drew ?_|refine blk_alloc ?_ _));exact BK894.out) hb);have n1_:=Aside0.mk (below_step (by repeat (first|(with_reducible first|exact HB.out|apply below_alloc|apply pw_below_drewN|apply below_drew1|refine below_set ?_ GE894.out)|exact HB.out)) hb);clear BK894;clear HB;have BK894:=n0_;have HB:=n1_;clear n0_ n1_;(try clear hb);(try clear hb2);(try clear hk);(try clear hi)))
 go_ret
 exact ⟨by first|rfl|(simp [errW_none,errW_some] <;> rfl)|(simp [*,errW_none,errW_some] <;> rfl),by repeat (first|(with_reducible first|exact HB.out|apply below_alloc|apply pw_below_drewN|apply below_drew1|refine below_set ?_ GE894.out)|exact HB.out)⟩
end Go.Proofs.Ytpdnabhpkdchjaa.P
namespace Go.Proofs.Ytpdnabhpkdchjaa.P
open Go.RowKit Go.Proofs.YtpdnabhpkdchjaaW.PrintWords Go.Proofs.YtpdnabhpkdchjaaW.PrintLast Go.Proofs.YtpdnabhpkdchjaaW.PrintMore
set_option linter.unusedVariables false
set_option linter.unusedSimpArgs false
theorem eqDone_ev (x : S48) (h1 : x.f1.f1.length ≤ 1048576) (h2 : x.f1.f2.length ≤ 1048576) : Ev (fun k => laws_eqDone.f k x.f0 x.f1.f0 x.f1.f1 x.f1.f2 x.f0 x.f1.f0 x.f1.f1 x.f1.f2) true := by
  unfold laws_eqDone.f
  exact Ev.ite_pos rfl (Ev.bind (eqState_ev _ _ _ h1 h2) (Ev.ite_pos rfl (Ev.now _)))
end Go.Proofs.Ytpdnabhpkdchjaa.P
