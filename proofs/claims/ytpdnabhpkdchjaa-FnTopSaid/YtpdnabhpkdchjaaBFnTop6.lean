/- The statement FnTop holds of the given program, for every argument; there are no conditions. (Part 6 of 6.) -/
import Derived.Test.YtpdnabhpkdchjaaBFnTop5
import Derived.ShutString
namespace Go.Proofs.Ytpdnabhpkdchjaa.WalkFnTop
open P Go.RowKit Go.Proofs.YtpdnabhpkdchjaaW.PrintWords Go.Proofs.YtpdnabhpkdchjaaW.PrintLast Go.Proofs.YtpdnabhpkdchjaaW.PrintMore
set_option linter.unusedVariables false
set_option linter.unusedSimpArgs false
def tp_T12 : Bool × List (List Nat × List Nat) := (true, [([], []), ([], []), ([], []), ([1, 2], [1, 2]), ([3], [3]), ([4], [4]), ([0, 5], [0, 5]), ([6], [6])])
def tp_B12 : List Nat := [0, 0, 0, 6, 14, 30, 63, 127]
theorem tp_tab12 : rtab .any (opsOf Try.f5 12) = tp_T12 := by kernel_rfl
theorem tp_bits12 : waitsOk tp_T12.2 tp_B12 = true := by kernel_rfl
def tp_T24 : Bool × List (List Nat × List Nat) := (true, [([], []), ([0], [0]), ([], []), ([2], [2]), ([1, 3], [1, 3]), ([4], [4]), ([5], [5]), ([5], [5]), ([7, 5], [5, 7]), ([6, 8, 5], [5, 6, 8]), ([9, 5], [5, 9]), ([10, 5], [5, 10]), ([5], [5]), ([5], [5]), ([13, 5], [5, 13]), ([12, 14, 5], [5, 12, 14]), ([15, 5], [5, 15]), ([16, 5], [5, 16]), ([11, 17, 5, 5], [5, 11, 17]), ([18, 5], [5, 18]), ([5, 19], [5, 19])])
def tp_B24 : List Nat := [0, 1, 0, 4, 15, 31, 63, 63, 191, 511, 1023, 2047, 63, 63, 8255, 28735, 61503, 127039, 262143, 524287, 1048575]
theorem tp_tab24 : rtab .any (opsOf Try.f5 24) = tp_T24 := by kernel_rfl
theorem tp_bits24 : waitsOk tp_T24.2 tp_B24 = true := by kernel_rfl
def halfM {α : Type} (f : α → α) (xs : List α) (k : Nat) : List α := (xs.take k).map f ++ xs.drop k
section
variable {α : Type} {f : α → α} {xs : List α} {k : Nat}
theorem half_len (h : k ≤ xs.length) : (halfM f xs k).length = xs.length := by simp [halfM]; omega
theorem half_zero : halfM f xs 0 = xs := by simp [halfM]
theorem half_getD (z : α) (j : Nat) (hk : k ≤ j) (h : j < xs.length) : (halfM f xs k).getD j z = xs.getD j z := by
  have e : (halfM f xs k)[j]? = xs[j]? := by
    have hm : ((xs.take k).map f).length = k := by rw [List.length_map, List.length_take]; omega
    rw [halfM, List.getElem?_append_right (by omega), hm, List.getElem?_drop]
    congr 1
    omega
  rw [List.getD_eq_getElem?_getD, e, ← List.getD_eq_getElem?_getD]
theorem half_set (z : α) (h : k < xs.length) : (halfM f xs k).set k (f (xs.getD k z)) = halfM f xs (k + 1) := by
  have hm : ((xs.take k).map f).length = k := by rw [List.length_map, List.length_take]; omega
  rw [halfM, List.set_append_right _ _ (by omega), hm, Nat.sub_self, List.drop_eq_getElem_cons h, List.set_cons_zero, halfM, List.take_succ_eq_append_getElem h, List.map_append, List.append_assoc]
  simp [List.getD_eq_getElem?_getD, List.getElem?_eq_getElem h]
theorem half_all (h : k = xs.length) : halfM f xs k = xs.map f := by subst h; simp [halfM]
end
def mdS (x : S50) : S50 := ⟨x.f0, 77, x.f2, x.f3, x.f4⟩
def mdD (x : S48) : S48 := ⟨x.f0, ⟨x.f1.f0, x.f1.f1.map mdS, x.f1.f2.map (fun _ => true)⟩⟩
structure TpSt (w6 W : World) (g m c : Nat) (xs : List S48) (i : Int) (oki : Nat → Prop) (x0 : Int) (x1 : Bool) (v2 v3 : Value) (ss : List S50) (dd : List Bool) : Prop where
  H : Kd.H k48 48 W w6.heap.size (fun _ => True) (.slice (some ⟨g, 0, none⟩) m c) xs i oki [.int .i64 x0, .bool x1, v2, v3]
  R2 : Kd.R k50 50 W w6.heap.size oki v2 ss
  R3 : Kd.R Kd.bool 4 W w6.heap.size oki v3 dd
  B : Below w6.heap.size w6 W
section
variable {w6 W W' : World} {g m c : Nat} {xs : List S48} {i : Int} {oki : Nat → Prop} {x0 : Int} {x1 : Bool} {v2 v3 : Value} {ss ss' : List S50} {dd dd' : List Bool}
theorem TpSt.up (h : TpSt w6 W g m c xs i oki x0 x1 v2 v3 ss dd) (hb : Below W.heap.size W W') : TpSt w6 W' g m c xs i oki x0 x1 v2 v3 ss dd := ⟨Kd.H_below h.H hb, Kd.R_below h.R2 hb, Kd.R_below h.R3 hb, below_step h.B hb⟩
theorem TpSt.put2 (h : TpSt w6 W g m c xs i oki x0 x1 v2 v3 ss dd) (hr : Kd.R k50 50 W' w6.heap.size oki v2 ss') (hg : W.grownBy W' v2.ownBlock) : TpSt w6 W' g m c xs i oki x0 x1 v2 v3 ss' dd :=
  ⟨Kd.H_grown h.H hg (fun k hk => h.R2.1 k hk), hr, Kd.R_over h.R3 h.R2 (by decide) hg, pw_below_grown h.B _ h.B.size hg (fun k hk => Kd.R_base h.R2 k hk)⟩
theorem TpSt.put3 (h : TpSt w6 W g m c xs i oki x0 x1 v2 v3 ss dd) (hr : Kd.R Kd.bool 4 W' w6.heap.size oki v3 dd') (hg : W.grownBy W' v3.ownBlock) : TpSt w6 W' g m c xs i oki x0 x1 v2 v3 ss dd' :=
  ⟨Kd.H_grown h.H hg (fun k hk => h.R3.1 k hk), Kd.R_over h.R2 h.R3 (by decide) hg, hr, pw_below_grown h.B _ h.B.size hg (fun k hk => Kd.R_base h.R3 k hk)⟩
theorem TpSt.at_ {j : Nat} (h : TpSt w6 W g m c xs (j : Int) oki x0 x1 v2 v3 ss dd) (h1 : j < m) : W.cell? ⟨g, j * 4 + 1, none⟩ = some (.bool x1) ∧ W.cell? ⟨g, j * 4 + 2, none⟩ = some v2 ∧ W.cell? ⟨g, j * 4 + 3, none⟩ = some v3 := by
  obtain ⟨cc, _⟩ := Kd.H_at h.H (by omega) (by omega)
  exact ⟨cc 1 _ rfl, cc 2 _ rfl, cc 3 _ rfl⟩
end
theorem box2 {w : World} {g : Nat} {a b : Value} {t : TypeId} (h : w.heap[g]? = some (.cells #[a, b] t (0, 0))) : w.cell? ⟨g, 0, none⟩ = some a ∧ w.cell? ⟨g, 1, none⟩ = some b  := by
  have h0 := blk_cell h 0
  have h1 := blk_cell h 1
  exact ⟨h0, h1⟩
theorem ist_v {n : Int} {A : Option Addr} {c : Nat} {l : List S88} {b : Bool} {A1 : Option Addr} {c1 : Nat} {ss : List S50} {A2 : Option Addr} {c2 : Nat} {dd : List Bool} {w : World} {v : Bool} (hv : stateOk n l b ss dd = v)
    (hr : Kd.C k88 w A l.length l) (hc : l.length ≤ c) (hr1 : Kd.C k50 w A1 ss.length ss) (hc1 : ss.length ≤ c1) (hr2 : Kd.C Kd.bool w A2 dd.length dd) (hc2 : dd.length ≤ c2) :
    Calls Try.prog 32 #[.agg #[.int .i64 n, .slice A l.length c], .agg #[.bool b, .slice A1 ss.length c1, .slice A2 dd.length c2]] w fun e w' => e = .returned (.bool v) ∧ Below w.heap.size w w' := by
  have h := ist_any (n := n) (b := b) hr hc hr1 hc1 hr2 hc2
  rwa [hv] at h
set_option maxHeartbeats 8000000 in
set_option maxRecDepth 100000 in
theorem walk (A : Option Addr) (c : Nat) (code : List Int) (w : World) (hr : Kd.C (Kd.int .u8) w A code.length code) (hc : code.length ≤ c) (hby : ∀ x ∈ code, 0 ≤ x ∧ x < 256) :
    Calls Try.prog 5 #[.slice A code.length c] w fun e w' => e = .returned (.bool true) ∧ Below w.heap.size w w' := by
  by_cases hbig : 1048576 < code.length
  · have hb1 : decide ((1048576 : Int) < (code.length : Int)) = true := decide_eq_true (by omega)
    clear hbig
    go_enter Try.func5, Try.ntmps5
    go_wp2_with fail
    go_ret
    exact ⟨rfl, Below.refl _ _⟩
  have hb1 : decide ((1048576 : Int) < (code.length : Int)) = false := decide_eq_false (by omega)
  obtain ⟨n, l, c', n0, n1, hll, hlo, hcc, hdr⟩ := drawn_is hby false
  obtain ⟨_, hlen⟩ := evDraw_ok (ho := false) hlo hcc (by decide)
  obtain ⟨es, hes⟩ : ∃ es, (evDraw code n l false c').out = es := ⟨_, rfl⟩
  have HES := Aside0.mk hes
  rw [hes] at hlen
  have hdr2 := hdr A c w hr
  rw [hes] at hdr2
  have HDR := Aside0.mk hdr2
  have HDR0 := Aside0.mk hdr
  have HES0 := Aside0.mk hes
  have HRC := Aside0.mk hr
  have HL := Aside0.mk hlo
  have HLEN := Aside0.mk hlen
  have HN := Aside0.mk (And.intro n0 n1)
  clear hbig hr hc hby hdr hdr2 hes hlo hcc hlen hll n0 n1
  have HRS := Aside0.mk (run_small n l es)
  have HRL := Aside0.mk (show (run n l es).length = es.length by rw [run, if_pos ⟨HL.out, by have := HLEN.out; omega⟩, runTo_length])
  have HST := Aside0.mk (show ∀ i : Nat, i < (run n l es).length → stateOk n l (rd_T48 (run n l es) (i : Int)).f1.f0 (rd_T48 (run n l es) (i : Int)).f1.f1 (rd_T48 (run n l es) (i : Int)).f1.f2 = true ∧ (rd_T48 (run n l es) (i : Int)).f1.f1.length ≤ 60 ∧ (rd_T48 (run n l es) (i : Int)).f1.f2.length ≤ 120 from by
    have he : es.length ≤ 2000 := by have := HLEN.out; omega
    have hn := lay_n HL.out
    rw [run, if_pos ⟨HL.out, he⟩]
    intro i hi
    rw [runTo_length] at hi
    rw [rd_runTo n l es _ i hi, ← stAt_succ n l es i hi]
    have hl2 := stAt_len n l es (i + 1)
    exact ⟨stAt_ok HL.out es (i + 1), by omega, by omega⟩)
  clear HES
  go_enter Try.func5, Try.ntmps5
  go_upto_region 4 with (first | (go_at_call 27; refine HDR.out.mono ?_; rintro e w1 ⟨Al, cl, v2, rfl, ho1, ho2, hb⟩; obtain ⟨Ae, ce, rfl⟩ := Kd.R_slice ho2; have RL := Aside0.mk ho1; have RE := Aside0.mk ho2; have B1 := Aside0.mk hb; clear ho1 ho2 hb) | ((with_reducible refine gate_dst (N := 3) rfl ?_); refine box_event ?hg (N := 3) ?hd (cs := #[.int .i64 0, .slice none 0 0]) (t := 30) ?hr ?_; (case hd => rfl); (case hg => rfl); (case hr => first | (go_simp; done) | (go_simp; rfl)); intro gl el wl kl bl; have EL := Aside0.mk el; have KL := Aside0.mk kl; have BL := Aside0.mk bl; clear el kl bl; have kl0 : wl.cell? ⟨gl, 0, none⟩ = some (.int .i64 0) := (blk_cell KL.out 0).trans rfl; have zkl0 := blk_frozen KL.out 0; have kl1 : wl.cell? ⟨gl, 1, none⟩ = some (.slice none 0 0) := (blk_cell KL.out 1).trans rfl; have zkl1 := blk_frozen KL.out 1))
  have FX := Aside0.mk (show Below w1.heap.size w1 ((wl.setCell ⟨gl, 0, none⟩ (.int .i64 n)).setCell ⟨gl, 1, none⟩ (.slice Al l.length cl)) ∧ ((wl.setCell ⟨gl, 0, none⟩ (.int .i64 n)).setCell ⟨gl, 1, none⟩ (.slice Al l.length cl)).heap[gl]? = some (.cells #[.int .i64 n, .slice Al l.length cl] 30 (0, 0)) from ⟨below_set (j := 1) (below_set (j := 0) BL.out (Nat.le_of_eq EL.out.symm)) (Nat.le_of_eq EL.out.symm), blk_put (blk_put KL.out 0 (.int .i64 n) rfl) 1 (.slice Al l.length cl) rfl⟩)
  clear kl0 zkl0 kl1 zkl1 KL BL EL
  generalize ((wl.setCell ⟨gl, 0, none⟩ (.int .i64 n)).setCell ⟨gl, 1, none⟩ (.slice Al l.length cl)) = w2 at FX ⊢
  have RL := Aside0.mk (Kd.R_below RL.out FX.out.1)
  have RE := Aside0.mk (Kd.R_below RE.out FX.out.1)
  have B1 := Aside0.mk (below_step B1.out FX.out.1)
  have KL := Aside0.mk FX.out.2
  clear FX HDR
  have HDR2 := Aside0.mk (HDR0.out A c w2 (Kd.C_below HRC.out B1.out))
  go_upto_region 5 with (first | (go_at_call 27; refine HDR2.out.mono ?_; rintro e w3 ⟨Am, cm, v3, rfl, ho1, ho2, hb⟩; rw [HES0.out] at ho2; obtain ⟨Af, cf, rfl⟩ := Kd.R_slice ho2; have RE2 := Aside0.mk ho2; have RL := Aside0.mk (Kd.R_below RL.out hb); have RE := Aside0.mk (Kd.R_below RE.out hb); have B1 := Aside0.mk (below_step B1.out hb); have KL := Aside0.mk (blk_below KL.out hb); clear ho1 ho2 hb) | ((with_reducible refine gate_dst (N := 5) rfl ?_); refine box_event ?hg (N := 5) ?hd (cs := #[.int .i64 0, .slice none 0 0]) (t := 30) ?hr ?_; (case hd => rfl); (case hg => rfl); (case hr => first | (go_simp; done) | (go_simp; rfl)); intro gm em wm km bm; have EM := Aside0.mk em; have KM := Aside0.mk km; have BM := Aside0.mk bm; clear em km bm; have km0 : wm.cell? ⟨gm, 0, none⟩ = some (.int .i64 0) := (blk_cell KM.out 0).trans rfl; have zkm0 := blk_frozen KM.out 0; have km1 : wm.cell? ⟨gm, 1, none⟩ = some (.slice none 0 0) := (blk_cell KM.out 1).trans rfl; have zkm1 := blk_frozen KM.out 1))
  have FX := Aside0.mk (below_set (j := 1) (v := .slice Am l.length cm) (below_set (j := 0) (v := .int .i64 n) BM.out (Nat.le_of_eq EM.out.symm)) (Nat.le_of_eq EM.out.symm))
  clear km0 zkm0 km1 zkm1 KM BM EM
  generalize ((wm.setCell ⟨gm, 0, none⟩ (.int .i64 n)).setCell ⟨gm, 1, none⟩ (.slice Am l.length cm)) = w4 at FX ⊢
  have hb := FX.out
  have RL := Aside0.mk (Kd.R_below RL.out hb); have RE := Aside0.mk (Kd.R_below RE.out hb); have B1 := Aside0.mk (below_step B1.out hb); have KL := Aside0.mk (blk_below KL.out hb); have RE2 := Aside0.mk (Kd.R_below RE2.out hb)
  clear FX HDR2 HDR0 HES0 hb
  have kl0 : w4.cell? ⟨gl, 0, none⟩ = some (.int .i64 n) := (blk_cell KL.out 0).trans rfl; have kl1 : w4.cell? ⟨gl, 1, none⟩ = some (.slice Al l.length cl) := (blk_cell KL.out 1).trans rfl
  go_upto_region 6 with (go_at_call 28; refine (srun_is n _ _ l _ _ es _ (Kd.R_reads' RL.out).2.2 (Kd.R_reads' RL.out).2.1 (Kd.R_reads' RE2.out).2.2 (Kd.R_reads' RE2.out).2.1).mono ?_; rintro e w5 ⟨v5, rfl, hs, hb⟩; obtain ⟨A5, c5, rfl⟩ := Kd.S_slice hs; have RW := Aside0.mk (Kd.S_reads' hs); have RL := Aside0.mk (Kd.R_below RL.out hb); have RE := Aside0.mk (Kd.R_below RE.out hb); have B1 := Aside0.mk (below_step B1.out hb); have KL := Aside0.mk (blk_below KL.out hb); have RE2 := Aside0.mk (Kd.R_below RE2.out hb); clear hs hb kl0 kl1; have kl0 : w5.cell? ⟨gl, 0, none⟩ = some (.int .i64 n) := (blk_cell KL.out 0).trans rfl; have kl1 : w5.cell? ⟨gl, 1, none⟩ = some (.slice Al l.length cl) := (blk_cell KL.out 1).trans rfl)
  go_upto_region 7 with (go_at_call 29; refine (run_is n _ _ l _ _ es _ (Kd.R_reads' RL.out).2.2 (Kd.R_reads' RL.out).2.1 (Kd.R_reads' RE.out).2.2 (Kd.R_reads' RE.out).2.1).mono ?_; rintro e w6 ⟨v6, rfl, hs, hb⟩; obtain ⟨A6, c6, rfl⟩ := Kd.S_slice hs; have HS := Aside0.mk hs; have HB := Aside0.mk hb; clear hs hb kl0 kl1)
  go_wp2_with (first | (go_at_call 30; refine (wDone_is HRS.out.1 HRS.out.2 (Kd.S_reads' HS.out).2.2 (Kd.S_reads' HS.out).2.1 (Kd.C_below RW.out.2.2 HB.out) RW.out.2.1).mono ?_; rintro e w7 ⟨rfl, hb⟩; have HS := Aside0.mk (Kd.S_below HS.out hb); have HB := Aside0.mk (below_step HB.out hb); clear hb) | (go_at_call 31; refine (wEvents_is (by have := HLEN.out; omega) (Kd.C_below (Kd.R_reads' RE.out).2.2 HB.out) (Kd.R_reads' RE.out).2.1 (Kd.C_below (Kd.R_reads' RE2.out).2.2 HB.out) (Kd.R_reads' RE2.out).2.1).mono ?_; rintro e w8 ⟨rfl, hb⟩; have HS := Aside0.mk (Kd.S_below HS.out hb); have HB := Aside0.mk (below_step HB.out hb); clear hb))
  obtain ⟨rs, hrs⟩ : ∃ rs, run n l es = rs := ⟨_, rfl⟩
  have HRUN := Aside0.mk hrs
  rw [hrs] at HRS HRL HST HS RW ⊢
  clear hrs RE2
  go_loopg [43] rs.length (fun kq v43 w' => ∃ i : Nat, v43 = .int .i64 i ∧ Aside0 (i + kq = rs.length) ∧ Aside0 (Kd.S k48 48 w' w5.heap.size (fun _ => True) (.slice A6 rs.length c6) (halfM mdD rs i)) ∧ Aside0 (Below w5.heap.size w5 w'))
  case atStart => exact ⟨0, rfl, ⟨by omega⟩, ⟨by rw [half_zero]; exact HS.out⟩, HB⟩
  case round =>
    clear HS HB
    obtain ⟨i, rfl, HI, HS, HB⟩ := hrel
    by_cases hlt : i < rs.length
    · cases gk with
      | zero => exact absurd HI.out (by omega)
      | succ go1 =>
      have hlt' : decide ((i : Int) < (rs.length : Int)) = true := decide_eq_true (by omega)
      have q0 : (0 : Int) ≤ (i : Int) := by omega
      have q1 : (i : Int) < (rs.length : Int) := by omega
      have I30 := Aside0.mk (show i < 2000 by have := HLEN.out; have := HRL.out; omega)
      have hlen := half_len (f := mdD) (xs := rs) (k := i) (by omega)
      obtain ⟨g, cg, e, -⟩ := Kd.R_form (Kd.S_R HS.out) (by rw [hlen]; omega)
      rw [hlen] at e
      cases e
      obtain ⟨oki, ce, hcl, hM, hcc, hoki, hH⟩ := Kd.S_lend HS.out z48 (i : Int) q0 q1
      have hrow : (halfM mdD rs i).getD ((i : Int)).toNat z48 = rs.getD i z48 := by rw [Int.toNat_natCast]; exact half_getD z48 i (Nat.le_refl _) hlt
      rw [hrow] at hM
      have ESET := Aside0.mk (half_set (f := mdD) z48 hlt)
      have hst := HST.out i hlt
      rw [show rd_T48 rs (i : Int) = rs.getD i z48 by rw [rd_T48, Int.toNat_natCast]] at hst
      generalize rs.getD i z48 = x at hM ESET hst
      obtain ⟨xc, xb, ss, dd⟩ := x
      dsimp only at hst
      obtain ⟨v2, v3, rfl, hR2, hR3⟩ := k48_openM hM
      dsimp only at hR2 hR3
      obtain ⟨A2, c2, rfl⟩ := Kd.R_slice hR2
      obtain ⟨A3, c3, rfl⟩ := Kd.R_slice hR3
      have TS := Aside0.mk (TpSt.mk hH hR2 hR3 HB.out)
      have ST := Aside0.mk hst
      clear hcl hM hcc hoki hH hrow hlen hst hR2 hR3 HS HB
      go_upto_region 12 with fail
      have TS := Aside0.mk (TS.out.up (below_drew1 (Below.refl _ _)))
      obtain ⟨y1, y2, y3⟩ := TS.out.at_ hlt
      obtain ⟨kl0, kl1⟩ := box2 (blk_below KL.out TS.out.B)
      refine startK 8 (S := fun w' => w'.cell? ⟨gl, 0, none⟩ = some (.int .i64 n) ∧ w'.cell? ⟨gl, 1, none⟩ = some (.slice Al l.length cl) ∧ w'.cell? ⟨g, i * 4 + 1, none⟩ = some (.bool xb) ∧ w'.cell? ⟨g, i * 4 + 2, none⟩ = some (.slice A2 ss.length c2) ∧ w'.cell? ⟨g, i * 4 + 3, none⟩ = some (.slice A3 dd.length c3)) (ds := []) (by kernel_rfl) rfl ⟨kl0, kl1, y1, y2, y3⟩ (fun hHeld => ?_)
      refine with_tabW tp_tab12 tp_bits12 (fun HT_ HW_ => ?_)
      repeat (first
        | (refine take0 (v := ?_) (a' := ?_) (by simp only [Nat.reduceAdd]; rfl) (by rfl) HT_.out HW_.out (by kernel_rfl) (by exact fun _ _ _ h => h) hHeld ?_ ?_ ?_; rotate_left 2; (· rintro w' ⟨s0, s1, s2, s3, s4⟩; go_simp; with_reducible rfl); (· simp only [Act.put, List.setIfInBounds_toArray, List.set_cons_zero, List.set_cons_succ, i64_w, i32_w]; rfl))
        | (refine takeG (v := ?_) (a' := ?_) (by simp only [Nat.reduceAdd]; rfl) (by rfl) (by rfl) HT_.out HW_.out (by kernel_rfl) (by exact fun _ _ _ h => h) hHeld ?_ ?_ ?_; rotate_left 2; (· first | (rw [if_neg (by decide)]; done) | (rw [if_pos (by decide)]; rintro w' ⟨s0, s1, s2, s3, s4⟩; go_simp; with_reducible rfl)); (· simp only [Act.put, List.setIfInBounds_toArray, List.set_cons_zero, List.set_cons_succ, i64_w, i32_w]; rfl))
        | (refine oneK (by simp only [Nat.reduceAdd]; rfl) (by rfl) HT_.out (by kernel_rfl) (by decide) (fun K hK => ?_); refine goes_ Try.func32 (by kernel_rfl) rfl #[.agg #[.int .i64 n, .slice Al l.length cl], .agg #[.bool xb, .slice A2 ss.length c2, .slice A3 dd.length c3]] (by rfl) rfl rfl (by (try simp only [List.map_toArray, List.map_cons, List.map_nil]); first | done | rfl | (simp only [List.length_drop, List.length_take]; rfl)) ?_; ((with_reducible refine (ist_v (b := xb) ST.out.1 (Kd.C_below (Kd.R_reads' RL.out).2.2 TS.out.B) (Kd.R_reads' RL.out).2.1 (Kd.R_reads' TS.out.R2).2.2 (Kd.R_reads' TS.out.R2).2.1 (Kd.R_reads' TS.out.R3).2.2 (Kd.R_reads' TS.out.R3).2.1).mono ?_); rintro e w' ⟨rfl, hb⟩); refine ⟨_, rfl, ?_⟩; have TS := Aside0.mk (TS.out.up hb); refine hK.out _ _ ⟨pw_cell_below hb hHeld.1, pw_cell_below hb hHeld.2.1, pw_cell_below hb hHeld.2.2.1, pw_cell_below hb hHeld.2.2.2.1, pw_cell_below hb hHeld.2.2.2.2⟩ (fun hHeld => ?_); clear hK K; refine norm_ (a' := ?_) ?_ ?_; rotate_left; · simp only [Act.put, List.setIfInBounds_toArray, List.set_cons_zero, List.set_cons_succ, i64_w, i32_w]; rfl))
      refine done_ (done_of HT_.out (by kernel_rfl)) ?_
      go_upto_region 14 with fail
      clear y1 y2 y3 kl0 kl1 hHeld
      obtain ⟨y1, y2, y3⟩ := TS.out.at_ hlt
      go_wp2_with fail
      clear y1 y2 y3
      go_loopg [61] ss.length (fun kq v61 w' => ∃ k : Nat, v61 = .int .i64 k ∧ Aside0 (k + kq = ss.length) ∧ Aside0 (TpSt w5 w' g rs.length c6 (halfM mdD rs i) (i : Int) oki xc xb (.slice A2 ss.length c2) (.slice A3 dd.length c3) (halfM mdS ss k) dd))
      case atStart => exact ⟨0, rfl, ⟨by omega⟩, ⟨by rw [half_zero]; exact TS.out⟩⟩
      case round =>
        clear TS
        obtain ⟨k, rfl, HK, TS⟩ := hrel
        by_cases hkt : k < ss.length
        · cases gk with
          | zero => exact absurd HK.out (by omega)
          | succ go2 =>
          have hkt' : decide ((k : Int) < (ss.length : Int)) = true := decide_eq_true (by omega)
          have r0 : (0 : Int) ≤ (k : Int) := by omega
          have r1 : (k : Int) < (ss.length : Int) := by omega
          have hl2 := half_len (f := mdS) (xs := ss) (k := k) (by omega)
          obtain ⟨ga, ca, e, -⟩ := Kd.R_form TS.out.R2 (by rw [hl2]; omega)
          rw [hl2] at e
          cases e
          obtain ⟨y1, y2, y3⟩ := TS.out.at_ hlt
          have at5 := sec_at TS.out.R2 (k : Int) r0 r1
          rw [Int.toNat_natCast] at at5
          obtain ⟨-, z1, -, -, -, -, f1, -⟩ := at5
          have hp := sec_put TS.out.R2 (k : Int) r0 r1 1 (by decide) (.int .i64 77) (mdS (rd_T50 (halfM mdS ss k) (k : Int))) rfl
          rw [Int.toNat_natCast] at hp
          rw [show (halfM mdS ss k).set k (mdS (rd_T50 (halfM mdS ss k) (k : Int))) = halfM mdS ss (k + 1) by rw [rd_T50, Int.toNat_natCast, half_getD z50 k (Nat.le_refl _) hkt]; exact half_set z50 hkt] at hp
          have TS2 := Aside0.mk (TS.out.put2 hp.1 hp.2)
          have W2 := Aside0.mk (show wrap64 ((k : Int) + 1) = ((k + 1 : Nat) : Int) from (wrap_id (by omega) (by have := ST.out.2.1; omega)).trans (by omega))
          clear hp hl2
          go_wp2_with fail
          go_roundg go2
          case measure => omega
          case rel => exact ⟨k + 1, congrArg (Value.int .i64) W2.out, ⟨by have := HK.out; omega⟩, TS2⟩
        · have hkt' : decide ((k : Int) < (ss.length : Int)) = false := decide_eq_false (by omega)
          have hk : k = ss.length := by have := HK.out; omega
          have HALL := Aside0.mk (half_all (f := mdS) (xs := ss) hk)
          obtain ⟨y1, y2, y3⟩ := TS.out.at_ hlt
          clear hk
          go_wp2_with fail
          clear y1 y2 y3
          go_loopg [81] dd.length (fun kq v81 w' => ∃ j : Nat, v81 = .int .i64 j ∧ Aside0 (j + kq = dd.length) ∧ Aside0 (TpSt w5 w' g rs.length c6 (halfM mdD rs i) (i : Int) oki xc xb (.slice A2 ss.length c2) (.slice A3 dd.length c3) (ss.map mdS) (halfM (fun _ => true) dd j)))
          case atStart => exact ⟨0, rfl, ⟨by omega⟩, ⟨by rw [half_zero, ← HALL.out]; exact TS.out⟩⟩
          case round =>
            clear TS HALL
            obtain ⟨j, rfl, HJ, TS⟩ := hrel
            by_cases hjt : j < dd.length
            · cases gk with
              | zero => exact absurd HJ.out (by omega)
              | succ go2 =>
              have hjt' : decide ((j : Int) < (dd.length : Int)) = true := decide_eq_true (by omega)
              have r0 : (0 : Int) ≤ (j : Int) := by omega
              have r1 : (j : Int) < (dd.length : Int) := by omega
              have hl2 := half_len (f := fun _ => true) (xs := dd) (k := j) (by omega)
              obtain ⟨ga, ca, e, -⟩ := Kd.R_form TS.out.R3 (by rw [hl2]; omega)
              rw [hl2] at e
              cases e
              obtain ⟨y1, y2, y3⟩ := TS.out.at_ hlt
              obtain ⟨z1, f1⟩ := bool_at TS.out.R3 (j : Int) r0 r1
              rw [Int.toNat_natCast] at z1 f1
              have hp := Kd.R_putg TS.out.R3 (j : Int) true
              rw [Int.toNat_natCast] at hp
              rw [show (halfM (fun _ => true) dd j).set j true = halfM (fun _ => true) dd (j + 1) from half_set (f := fun _ => true) false hjt] at hp
              have TS2 := Aside0.mk (TS.out.put3 hp.1 hp.2)
              have W2 := Aside0.mk (show wrap64 ((j : Int) + 1) = ((j + 1 : Nat) : Int) from (wrap_id (by omega) (by have := ST.out.2.2; omega)).trans (by omega))
              clear hp hl2
              go_wp2_with fail
              go_roundg go2
              case measure => omega
              case rel => exact ⟨j + 1, congrArg (Value.int .i64) W2.out, ⟨by have := HJ.out; omega⟩, TS2⟩
            · have hjt' : decide ((j : Int) < (dd.length : Int)) = false := decide_eq_false (by omega)
              have hj : j = dd.length := by have := HJ.out; omega
              have hall := half_all (f := fun _ : Bool => true) (xs := dd) hj
              have hback := Kd.H_back TS.out.H (x' := mdD ⟨xc, xb, ss, dd⟩) (okp := oki) (k48_mkM _ _ _ (mdD ⟨xc, xb, ss, dd⟩) TS.out.R2 (by have h := TS.out.R3; rw [hall] at h; exact h)) (fun _ h => h)
              rw [Int.toNat_natCast, ESET.out] at hback
              have HS := Aside0.mk hback
              have HB := Aside0.mk TS.out.B
              clear hall hback TS hj ESET
              have W1 := Aside0.mk (show wrap64 ((i : Int) + 1) = ((i + 1 : Nat) : Int) from (wrap_id (by omega) (by have := I30.out; omega)).trans (by omega))
              have hw1 : IntKind.i64.wrap ((i : Int) + 1) = (i : Int) + 1 := by rw [i64_w]; exact wrap_id (by omega) (by have := I30.out; omega)
              have hw2 : wrap64 ((i : Int) + 1) = (i : Int) + 1 := wrap_id (by omega) (by have := I30.out; omega)
              go_upto_region 24 with fail
              by_cases hn1 : i + 1 < rs.length
              · have hd1 : decide ((i : Int) + 1 < (rs.length : Int)) = true := decide_eq_true (by omega)
                have hl1 : (halfM mdD rs (i + 1)).length = rs.length := half_len (by omega)
                have s0 : (0 : Int) ≤ (i : Int) + 1 := by omega
                have s1 : (i : Int) + 1 < (rs.length : Int) := by omega
                obtain ⟨ce, hcl, hM, hcc, -⟩ := Kd.R_elem (Kd.S_R HS.out) z48 ((i : Int) + 1) s0 s1
                rw [show ((i : Int) + 1).toNat = i + 1 by omega] at hM hcc
                rw [half_getD z48 (i + 1) (Nat.le_refl _) hn1] at hM
                obtain ⟨ad5, B2, d2, B3, d3, e, x0, x1, x2, x3, l2, g2, l3, g3⟩ := at_T48 RW.out.2.2 ((i : Int) + 1) s0 s1
                cases e
                rw [show ((i : Int) + 1).toNat = i + 1 by omega] at x0 x1 x2 x3
                rw [show rd_T48 rs ((i : Int) + 1) = rs.getD (i + 1) z48 by rw [rd_T48, show ((i : Int) + 1).toNat = i + 1 by omega]] at x1 x2 x3 l2 g2 l3 g3
                have hst := HST.out (i + 1) hn1
                rw [show rd_T48 rs ((i + 1 : Nat) : Int) = rs.getD (i + 1) z48 by rw [rd_T48, Int.toNat_natCast]] at hst
                generalize rs.getD (i + 1) z48 = y at hM x1 x2 x3 l2 g2 l3 g3 hst
                obtain ⟨yc, yb, ts, ed⟩ := y
                dsimp only at x1 x2 x3 l2 g2 l3 g3 hst
                obtain ⟨v2, v3, rfl, hR2, hR3⟩ := k48_openM hM
                dsimp only at hR2 hR3
                obtain ⟨C2, f2, rfl⟩ := Kd.R_slice hR2
                obtain ⟨C3, f3, rfl⟩ := Kd.R_slice hR3
                have u1 : wr.cell? ⟨g, (i + 1) * 4 + 1, none⟩ = some (.bool yb) := hcc 1 _ rfl
                have u2 : wr.cell? ⟨g, (i + 1) * 4 + 2, none⟩ = some (.slice C2 ts.length f2) := hcc 2 _ rfl
                have u3 : wr.cell? ⟨g, (i + 1) * 4 + 3, none⟩ = some (.slice C3 ed.length f3) := hcc 3 _ rfl
                have L3 := Aside0.mk (And.intro l2 l3)
                have G3 := Aside0.mk (And.intro g2 g3)
                have M3 := Aside0.mk (And.intro hR2 hR3)
                have S3 := Aside0.mk hst.2
                have x1 := pw_cell_below HB.out x1
                have x2 := pw_cell_below HB.out x2
                have x3 := pw_cell_below HB.out x3
                clear hcc hcl hM x0 hR2 hR3 l2 l3 g2 g3 hst hl1
                have BD := Aside0.mk (below_drew1 (Below.refl wr.heap.size wr))
                have ht1 : ((i : Int) + 1).toNat = i + 1 := by omega
                refine startK 21 (S := fun w' => w'.cell? ⟨g, (i + 1) * 4 + 1, none⟩ = some (.bool yb) ∧ w'.cell? ⟨g, (i + 1) * 4 + 2, none⟩ = some (.slice C2 ts.length f2) ∧ w'.cell? ⟨g, (i + 1) * 4 + 3, none⟩ = some (.slice C3 ed.length f3) ∧ w'.cell? ⟨(ad5.add ((i + 1) * 4)).block, (ad5.add ((i + 1) * 4)).off + 1, none⟩ = some (.bool yb) ∧ w'.cell? ⟨(ad5.add ((i + 1) * 4)).block, (ad5.add ((i + 1) * 4)).off + 2, none⟩ = some (.slice B2 ts.length d2) ∧ w'.cell? ⟨(ad5.add ((i + 1) * 4)).block, (ad5.add ((i + 1) * 4)).off + 3, none⟩ = some (.slice B3 ed.length d3)) (ds := []) (by kernel_rfl) rfl ⟨u1, u2, u3, x1, x2, x3⟩ (fun hHeld => ?_)
                refine with_tabW tp_tab24 tp_bits24 (fun HT_ HW_ => ?_)
                repeat (first
                  | (refine take0 (v := ?_) (a' := ?_) (by simp only [Nat.reduceAdd]; rfl) (by rfl) HT_.out HW_.out (by kernel_rfl) (by exact fun _ _ _ h => h) hHeld ?_ ?_ ?_; rotate_left 2; (· rintro w' ⟨s0, s1, s2, s3, s4, s5⟩; go_simp; with_reducible rfl); (· simp only [Act.put, List.setIfInBounds_toArray, List.set_cons_zero, List.set_cons_succ, i64_w, i32_w]; rfl))
                  | (refine takeG (v := ?_) (a' := ?_) (by simp only [Nat.reduceAdd]; rfl) (by rfl) (by rfl) HT_.out HW_.out (by kernel_rfl) (by exact fun _ _ _ h => h) hHeld ?_ ?_ ?_; rotate_left 2; (· first | (rw [if_neg (by decide)]; done) | (rw [if_pos (by decide)]; rintro w' ⟨s0, s1, s2, s3, s4, s5⟩; go_simp; with_reducible rfl)); (· simp only [Act.put, List.setIfInBounds_toArray, List.set_cons_zero, List.set_cons_succ, i64_w, i32_w]; rfl))
                  | (refine oneK (by simp only [Nat.reduceAdd]; rfl) (by rfl) HT_.out (by kernel_rfl) (by decide) (fun K hK => ?_); refine goes_ Try.func33 (by kernel_rfl) rfl #[.agg #[.bool yb, .slice C2 ts.length f2, .slice C3 ed.length f3], .agg #[.bool yb, .slice B2 ts.length d2, .slice B3 ed.length d3]] (by rfl) rfl rfl (by (try simp only [List.map_toArray, List.map_cons, List.map_nil]); first | done | rfl | (simp only [List.length_drop, List.length_take]; rfl)) ?_; ((with_reducible refine (wState_is (by have := S3.out.1; omega) (by have := S3.out.2; omega) (Kd.C_below (Kd.R_reads' M3.out.1).2.2 BD.out) (Kd.R_reads' M3.out.1).2.1 (Kd.C_below (Kd.R_reads' M3.out.2).2.2 BD.out) (Kd.R_reads' M3.out.2).2.1 (Kd.C_below (Kd.C_below G3.out.1 HB.out) BD.out) L3.out.1 (Kd.C_below (Kd.C_below G3.out.2 HB.out) BD.out) L3.out.2).mono ?_); rintro e w' ⟨rfl, hb⟩); refine ⟨_, rfl, ?_⟩; have BD := Aside0.mk (below_step BD.out hb); refine hK.out _ _ ⟨pw_cell_below hb hHeld.1, pw_cell_below hb hHeld.2.1, pw_cell_below hb hHeld.2.2.1, pw_cell_below hb hHeld.2.2.2.1, pw_cell_below hb hHeld.2.2.2.2.1, pw_cell_below hb hHeld.2.2.2.2.2⟩ (fun hHeld => ?_); clear hK K; refine norm_ (a' := ?_) ?_ ?_; rotate_left; · simp only [Act.put, List.setIfInBounds_toArray, List.set_cons_zero, List.set_cons_succ, i64_w, i32_w]; rfl))
                refine done_ (done_of HT_.out (by kernel_rfl)) ?_
                go_wp2_with fail
                go_roundg go1
                case measure => omega
                case rel => exact ⟨i + 1, congrArg (Value.int .i64) (show (i : Int) + 1 = ((i + 1 : Nat) : Int) by omega), ⟨by have := HI.out; omega⟩, ⟨Kd.S_below HS.out BD.out⟩, ⟨below_step HB.out BD.out⟩⟩
              · have hd1 : decide ((i : Int) + 1 < (rs.length : Int)) = false := decide_eq_false (by omega)
                have BD := Aside0.mk (below_drew1 (Below.refl wr.heap.size wr))
                refine startK 21 (S := fun w' => w'.cell? ⟨gl, 0, none⟩ = some (.int .i64 n)) (ds := []) (by kernel_rfl) rfl (box2 (blk_below KL.out HB.out)).1 (fun hHeld => ?_)
                refine with_tabW tp_tab24 tp_bits24 (fun HT_ HW_ => ?_)
                repeat (first
                  | (refine take0 (v := ?_) (a' := ?_) (by simp only [Nat.reduceAdd]; rfl) (by rfl) HT_.out HW_.out (by kernel_rfl) (by exact fun _ _ _ h => h) hHeld ?_ ?_ ?_; rotate_left 2; (· intro w' s0; go_simp; with_reducible rfl); (· simp only [Act.put, List.setIfInBounds_toArray, List.set_cons_zero, List.set_cons_succ, i64_w, i32_w]; rfl))
                  | (refine takeG (v := ?_) (a' := ?_) (by simp only [Nat.reduceAdd]; rfl) (by rfl) (by rfl) HT_.out HW_.out (by kernel_rfl) (by exact fun _ _ _ h => h) hHeld ?_ ?_ ?_; rotate_left 2; (· first | (rw [if_neg (by decide)]; done) | (rw [if_pos (by decide)]; intro w' s0; go_simp; with_reducible rfl)); (· simp only [Act.put, List.setIfInBounds_toArray, List.set_cons_zero, List.set_cons_succ, i64_w, i32_w]; rfl)))
                refine done_ (done_of HT_.out (by kernel_rfl)) ?_
                go_wp2_with fail
                go_roundg go1
                case measure => omega
                case rel => exact ⟨i + 1, congrArg (Value.int .i64) (show (i : Int) + 1 = ((i + 1 : Nat) : Int) by omega), ⟨by have := HI.out; omega⟩, ⟨Kd.S_below HS.out BD.out⟩, ⟨below_step HB.out BD.out⟩⟩
    · have hlt' : decide ((i : Int) < (rs.length : Int)) = false := decide_eq_false (by omega)
      obtain ⟨kl0, kl1⟩ := box2 (blk_below KL.out HB.out)
      clear HS
      go_wp2_with (first | (go_at_call 29; refine (run_is n _ _ l _ _ es _ (Kd.C_below (Kd.R_reads' RL.out).2.2 HB.out) (Kd.R_reads' RL.out).2.1 (Kd.C_below (Kd.R_reads' RE.out).2.2 HB.out) (Kd.R_reads' RE.out).2.1).mono ?_; rw [HRUN.out]; rintro e w9 ⟨v9, rfl, hs, hb⟩; obtain ⟨A9, c9, rfl⟩ := Kd.S_slice hs; have HS := Aside0.mk hs; have HB := Aside0.mk (below_step HB.out hb); clear hs hb kl0 kl1) | (go_at_call 30; refine (wDone_is HRS.out.1 HRS.out.2 (Kd.S_reads' HS.out).2.2 (Kd.S_reads' HS.out).2.1 (Kd.C_below RW.out.2.2 HB.out) RW.out.2.1).mono ?_; rintro e w10 ⟨rfl, hb⟩; have HB := Aside0.mk (below_step HB.out hb); clear hb))
      go_ret
      exact ⟨rfl, below_step B1.out HB.out⟩
end Go.Proofs.Ytpdnabhpkdchjaa.WalkFnTop
namespace Go.Proofs.Ytpdnabhpkdchjaa.fnTop
open Go.ChangeShapes Go.WideShapes Go.ChangeAt Go.RowKit Go.Proofs.Ytpdnabhpkdchjaa.Open Go.Proofs.Ytpdnabhpkdchjaa.P
set_option linter.unusedVariables false
set_option maxRecDepth 100000 in
theorem lifted (os : Os) (started : os.Started) (H : Type) (enc : TypeId × Value → H) :
    ReturnsInHanded {} Try.checked os 5 .any (Rows.fnTopSpec.pre6 enc Try.prog Try.f5 Rows.fnTopRow.domain false) (Rows.fnTopSpec.post enc Try.prog Try.f5 false true false false) := by
  refine returnsInHanded_of_change_sized (C := Try.checked) Facts.own started (by kernel_rfl) Try.func5
    (ChangeSpec.witness6 (enc := enc) (C := Try.checked) false ⟨#[], #[.slice none 0 0], []⟩ 8 (by kernel_rfl) (by kernel_rfl) (by kernel_rfl) (by kernel_rfl)) ?_
  intro W base args ds gs before hval0 hW hcnd hsz0 _
  have hval : ∀ (j : Nat) t v, Try.f5.params[j]? = some t → args[j]? = some v → Value.okWide Try.prog W .any base t v := hval0
  have hW' := hW
  obtain ⟨p, q, hA0, hV, rfl, hfz, hnd⟩ := hW
  have hA : DataW.TrodAll enc Try.prog W 0 (fun _ => true) true Try.f5.params.toList args.toList ds p := hA0
  rw [Try.params5] at hA hval
  obtain ⟨v0, vs0, d0, ds0, p0, q0, hargs, rfl, rfl, h0, r0⟩ := trodAll_cons hA
  obtain ⟨rfl, rfl, rfl⟩ := trodAll_nil r0
  obtain rfl : args = #[v0] := by cases args; simp_all
  obtain ⟨rfl, rfl⟩ := trodVars_none hV
  have k0 := h0
  have lt0 : ∀ x ∈ p0, x.block < W.heap.size := by obtain ⟨m, hm⟩ := k0; exact DataW.trod_lt m _ _ _ hm
  obtain ⟨A0, c0, l0, rfl, hr0, hc0, hb0⟩ := arg_bytes (hval 0 34 v0 rfl rfl) h0
  clear hA0 hval0 hsz0
  refine (WalkFnTop.walk A0 c0 l0 W hr0 hc0 hb0).mono fun e W' ⟨he, bel⟩ => ?_
  subst he
  exact ⟨_, rfl, _, _, _, [], _, [], hW', trodAll_mk1 (shut_bool Try.underlying4 _), (trodAll_cons_mk (Below.trod Facts.laidOut (by kernel_rfl) (of_decide_eq_true (by kernel_rfl)) k0 bel lt0) trodAll_mk0), rfl, bel.frame _, fun h => by cases h⟩
theorem k10 : (Rows.fnTopRow.inPlace == Try.prog.inPlace 5) = true := by kernel_rfl
theorem k11 : (Rows.fnTopRow.unfollowed == Try.prog.unfollowed 5) = true := by kernel_rfl
theorem k12 : (Rows.fnTopRow.recurses == Try.prog.recurses 5) = true := by kernel_rfl
theorem k13 : (Rows.fnTopRow.named == Try.prog.varsNamed 5) = true := by kernel_rfl
theorem over : Rows.fnTopRow.holds Try.pinned (OpenSpec.ofChange Rows.fnTopSpec) :=
  OpenClaim.holds_of_wide 5 Try.f5 rfl rfl rfl rfl rfl rfl rfl ⟨rfl, rfl, rfl, rfl, rfl⟩ rfl rfl rfl rfl rfl (by kernel_rfl) Try.func5
    (joined_of 5 Try.f5 Rows.fnTopSpec Rows.fnTopRow (by kernel_rfl) (by kernel_rfl) (by kernel_rfl) rfl rfl Facts.stopKnobs k10 k11 k12 k13 (by kernel_rfl) (by kernel_rfl) (by kernel_rfl) (by kernel_rfl) (by kernel_rfl) (by kernel_rfl) (by kernel_rfl) (by kernel_rfl) (by kernel_rfl) rfl rfl rfl rfl rfl rfl (by kernel_rfl) (by kernel_rfl) (by kernel_rfl))
    (of_decide_eq_true (by kernel_rfl)) (by unfold Func.isWrapper; rw [if_neg (by decide +kernel)]; exact ⟨rfl, rfl⟩)
    (fun os started H enc _ => lifted os started H enc)
theorem proved : Rows.FnTopSaid := over
end Go.Proofs.Ytpdnabhpkdchjaa.fnTop
namespace Go.Proofs.Ytpdnabhpkdchjaa
theorem fnTop_holds : Rows.FnTopSaid := fnTop.proved
#print axioms fnTop_holds
end Go.Proofs.Ytpdnabhpkdchjaa
