/- The statement FnSwap holds of the given program, for every argument; there are no conditions. (Part 6 of 6.) -/
import Derived.Test.YtpdnabhpkdchjaaBFnSwap5
import Derived.Deep.RegionLaw
import Derived.ShutString
namespace Go.Proofs.Ytpdnabhpkdchjaa.WalkFnSwap
open P Go.RowKit Go.Proofs.YtpdnabhpkdchjaaW.PrintWords Go.Proofs.YtpdnabhpkdchjaaW.PrintLast Go.Proofs.YtpdnabhpkdchjaaW.PrintMore
set_option linter.unusedVariables false
set_option linter.unusedSimpArgs false
def sw_T17 : Bool × List (List Nat × List Nat) := (true, [([], []), ([], []), ([0, 1], [0, 1]), ([], []), ([], []), ([3, 4], [3, 4]), ([2, 5, 2], [2, 5]), ([6, 6, 0, 1, 2, 3, 4, 5, 6], [6])])
def sw_B17 : List Nat := [0, 0, 3, 0, 0, 24, 63, 127]
theorem sw_tab17 : rtab .any (opsOf Try.f15 17) = sw_T17 := by kernel_rfl
theorem sw_bits17 : waitsOk sw_T17.2 sw_B17 = true := by kernel_rfl
def sw_T18 : Bool × List (List Nat × List Nat) := (true, [([], []), ([], []), ([0, 1], [0, 1]), ([], []), ([], []), ([3, 4], [3, 4]), ([2, 5, 2], [2, 5]), ([6, 6, 0, 1, 2, 3, 4, 5, 6], [6])])
def sw_B18 : List Nat := [0, 0, 3, 0, 0, 24, 63, 127]
theorem sw_tab18 : rtab .any (opsOf Try.f15 18) = sw_T18 := by kernel_rfl
theorem sw_bits18 : waitsOk sw_T18.2 sw_B18 = true := by kernel_rfl
def sw_T24 : Bool × List (List Nat × List Nat) := (true, [([], []), ([0], [0]), ([1], [1]), ([1], [1]), ([3, 1], [1, 3]), ([2, 4, 1], [1, 2, 4]), ([5, 1], [1, 5]), ([6, 1], [1, 6]), ([1], [1]), ([1], [1]), ([9, 1], [1, 9]), ([8, 10, 1], [1, 8, 10]), ([11, 1], [1, 11]), ([12, 1], [1, 12]), ([7, 13, 1, 1], [1, 7, 13]), ([1, 14], [1, 14]), ([15, 14, 0, 1, 2, 3, 4, 5, 6, 7, 8, 9, 10, 11, 12, 13, 14, 15], [15])])
def sw_B24 : List Nat := [0, 1, 3, 3, 11, 31, 63, 127, 3, 3, 515, 1795, 3843, 7939, 16383, 32767, 65535]
theorem sw_tab24 : rtab .any (opsOf Try.f15 24) = sw_T24 := by kernel_rfl
theorem sw_bits24 : waitsOk sw_T24.2 sw_B24 = true := by kernel_rfl
def wb (more : List Int) (i : Int) : Int := (laws_wByte.f more i).getD 0
theorem wb_all {more : List Int} (hb : ∀ x ∈ more, 0 ≤ x ∧ x < 256) {i : Int} (hi : 0 ≤ i) : laws_wByte.f more i = some (wb more i) ∧ 0 ≤ wb more i ∧ wb more i < 256 := by
  unfold wb laws_wByte.f
  by_cases h : (more.length : Int) = 0
  · rw [if_pos h]; exact ⟨rfl, by decide, by decide⟩
  · have ht := tmod_in (x := i) (m := (more.length : Int)) hi (by omega)
    rw [if_neg h, if_pos ht.1, if_pos ht.2]
    have hm : rd more (Int.tmod i (more.length : Int)) ∈ more := by
      have hl : (Int.tmod i (more.length : Int)).toNat < more.length := by omega
      rw [rd, List.getD_eq_getElem?_getD, List.getElem?_eq_getElem hl, Option.getD_some]
      exact List.getElem_mem hl
    have hx := hb _ hm
    rw [wrap_id (by omega) (by omega)]
    exact ⟨rfl, hx.1, hx.2⟩
theorem wb_in {more : List Int} (hb : ∀ x ∈ more, 0 ≤ x ∧ x < 256) {i : Int} (hi : 0 ≤ i) : 0 ≤ wb more i ∧ wb more i < 256 := (wb_all hb hi).2
theorem wb_is {M : Option Addr} {mc : Nat} {more : List Int} {i : Int} (w : World) (hr : Kd.C (Kd.int .u8) w M more.length more) (hc : more.length ≤ mc) (hb : ∀ x ∈ more, 0 ≤ x ∧ x < 256) (hi : 0 ≤ i) :
    Calls Try.prog 64 #[.slice M more.length mc, .int .i64 i] w fun e w' => e = .returned (.int .i64 (wb more i)) ∧ Drawn0 w w' := laws_wByte.calls M mc more i _ w hr hc (wb_all hb hi).1
theorem new3 (w : World) (m : Nat) : ((w.drewN m).alloc (.cells #[.int .i64 0, .int .i64 0, .int .i64 0] 56)).cell? ⟨w.heap.size, 0, none⟩ = some (.int .i64 0) ∧ ((w.drewN m).alloc (.cells #[.int .i64 0, .int .i64 0, .int .i64 0] 56)).cell? ⟨w.heap.size, 1, none⟩ = some (.int .i64 0) ∧
    ((w.drewN m).alloc (.cells #[.int .i64 0, .int .i64 0, .int .i64 0] 56)).cell? ⟨w.heap.size, 2, none⟩ = some (.int .i64 0) ∧ ∀ j, ((w.drewN m).alloc (.cells #[.int .i64 0, .int .i64 0, .int .i64 0] 56)).frozen? ⟨w.heap.size, j, none⟩ = false := by
  have hb := blk_new (w.drewN m) (.cells #[.int .i64 0, .int .i64 0, .int .i64 0] 56)
  have h0 := blk_cell hb 0
  have h1 := blk_cell hb 1
  have h2 := blk_cell hb 2
  exact ⟨h0, h1, h2, fun j => blk_frozen hb j⟩
theorem fill3 {w w' : World} {g : Nat} {x0 x1 x2 y0 y1 y2 : Value} (hx : w'.heap[g]? = some (.cells #[x0, x1, x2] 56 (0, 0))) (hb : Below w.heap.size w w') (hg : w.heap.size ≤ g) :
    Below w.heap.size w (((w'.setCell ⟨g, 0, none⟩ y0).setCell ⟨g, 1, none⟩ y1).setCell ⟨g, 2, none⟩ y2) ∧ (((w'.setCell ⟨g, 0, none⟩ y0).setCell ⟨g, 1, none⟩ y1).setCell ⟨g, 2, none⟩ y2).heap[g]? = some (.cells #[y0, y1, y2] 56 (0, 0)) :=
  ⟨below_set (j := 2) (v := y2) (below_set (j := 1) (v := y1) (below_set (j := 0) (v := y0) hb hg) hg) hg, blk_put (blk_put (blk_put hx 0 y0 rfl) 1 y1 rfl) 2 y2 rfl⟩
theorem newA (w : World) (o : Obj) (m : Nat) : ((w.drewN m).alloc o).heap[w.heap.size]? = some o := blk_new (w.drewN m) o
theorem newB (w : World) (o : Obj) (m k : Nat) : (((w.drewN m).alloc o).drewN k).heap[w.heap.size]? = some o := blk_new (w.drewN m) o
theorem newC (w : World) (o : Obj) (k : Nat) : ((w.alloc o).drewN k).heap[w.heap.size]? = some o := blk_new w o
theorem newD (w : World) (o : Obj) : (w.alloc o).heap[w.heap.size]? = some o := blk_new w o
theorem box2 {w : World} {g : Nat} {a b : Value} {t : TypeId} (h : w.heap[g]? = some (.cells #[a, b] t (0, 0))) : w.cell? ⟨g, 0, none⟩ = some a ∧ w.cell? ⟨g, 1, none⟩ = some b  := by
  have h0 := blk_cell h 0
  have h1 := blk_cell h 1
  exact ⟨h0, h1⟩
theorem lit_fresh {e : TypeId} {W : World} {b0 : Nat} {ok : Nat → Prop} {v : Value} {xs : List S56} (h : Kd.R k56 e W b0 ok v xs) : some W.heap.size ≠ v.ownBlock := fun he => Nat.lt_irrefl _ (Kd.R_lt h _ he.symm)
theorem lit_below {W w1 : World} (hg : W.grownBy w1 none) : Below W.heap.size W w1 := (Below.refl W.heap.size W).grown hg (Nat.le_refl _) (fun _ h => nomatch h)
theorem keep_110 {e : TypeId} {W w1 : World} {b0 : Nat} {v u : Value} {xs : List S56} (h : Kd.R k56 e W b0 (fun _ => True) v xs) (hg : W.grownBy w1 none) (hn : ∃ b, u.ownBlock = some b ∧ W.heap.size ≤ b) :
    Kd.R k56 e w1 b0 (fun k => some k ≠ u.ownBlock) v xs :=
  Kd.R_mono (Kd.R_below (Kd.R_bound h) (lit_below hg)) (fun k hk he => by
    obtain ⟨b, hb, hle⟩ := hn
    rw [hb] at he
    injection he with he
    have := hk.2.2.1
    omega)
theorem carry_110 {e : TypeId} {W w1 : World} {b0 : Nat} {v u : Value} {xs : List S56} (h : Kd.R k56 e W b0 (fun k => some k ≠ u.ownBlock) v xs) (hg : W.grownBy w1 u.ownBlock) : Kd.R k56 e w1 b0 (fun _ => True) v xs :=
  Kd.R_mono (Kd.R_step h (fun k hk hlt => hg.block k hlt hk)) (fun _ _ => trivial)
set_option maxHeartbeats 40000000 in
set_option maxRecDepth 100000 in
theorem walk (A : Option Addr) (c : Nat) (code : List Int) (M : Option Addr) (mc : Nat) (more : List Int) (w : World) (hr : Kd.C (Kd.int .u8) w A code.length code) (hc : code.length ≤ c) (hby : ∀ x ∈ code, 0 ≤ x ∧ x < 256) (hrm : Kd.C (Kd.int .u8) w M more.length more) (hcm : more.length ≤ mc) (hbm : ∀ x ∈ more, 0 ≤ x ∧ x < 256) :
    Calls Try.prog 15 #[.slice A code.length c, .slice M more.length mc] w fun e w' => e = .returned (.bool true) ∧ Below w.heap.size w w' := by
  by_cases hbig : 1048576 < code.length
  · have hb1 : decide ((1048576 : Int) < (code.length : Int)) = true := decide_eq_true (by omega)
    clear hbig
    go_enter Try.func15, Try.ntmps15
    go_wp2_with fail
    go_ret
    exact ⟨rfl, Below.refl _ _⟩
  have hb1 : decide ((1048576 : Int) < (code.length : Int)) = false := decide_eq_false (by omega)
  by_cases hbig2 : 1048576 < more.length
  · have hb2 : decide ((1048576 : Int) < (more.length : Int)) = true := decide_eq_true (by omega)
    clear hbig2 hbig
    go_enter Try.func15, Try.ntmps15
    go_wp2_with fail
    go_ret
    exact ⟨rfl, Below.refl _ _⟩
  have hb2 : decide ((1048576 : Int) < (more.length : Int)) = false := decide_eq_false (by omega)
  have HRM := Aside0.mk hrm
  have HCM := Aside0.mk hcm
  have HBM := Aside0.mk hbm
  clear hrm hcm hbm hbig2
  obtain ⟨n, l, c', n0, n1, hll, hlo, hcc, hdr⟩ := drawn_is hby false
  obtain ⟨_, hlen⟩ := evDraw_ok (ho := false) hlo hcc (by decide)
  obtain ⟨es, hes⟩ : ∃ es, (evDraw code n l false c').out = es := ⟨_, rfl⟩
  have HES := Aside0.mk hes
  rw [hes] at hlen
  have hdr2 := hdr A c w hr
  rw [hes] at hdr2
  have HDR := Aside0.mk hdr2
  have HL := Aside0.mk hlo
  have HLEN := Aside0.mk hlen
  have HN := Aside0.mk (And.intro n0 n1)
  have HLL := Aside0.mk hll
  clear hbig hr hc hby hdr hdr2 hes hlo hcc hlen n0 n1
  have HRL := Aside0.mk (show (run n l es).length = es.length by rw [run, if_pos ⟨HL.out, by have := HLEN.out; omega⟩, runTo_length])
  clear HES
  go_enter Try.func15, Try.ntmps15
  go_upto_region 4 with (first | (go_at_call 27; refine HDR.out.mono ?_; rintro e w1 ⟨Al, cl, v2, rfl, ho1, ho2, hb⟩; obtain ⟨Ae, ce, rfl⟩ := Kd.R_slice ho2; have RL := Aside0.mk ho1; have RE := Aside0.mk ho2; have B1 := Aside0.mk hb; clear ho1 ho2 hb) | ((with_reducible refine gate_dst (N := 5) rfl ?_); refine box_event ?hg (N := 5) ?hd (cs := #[.int .i64 0, .slice none 0 0]) (t := 30) ?hr ?_; (case hd => rfl); (case hg => rfl); (case hr => first | (go_simp; done) | (go_simp; rfl)); intro gl el wl kl bl; have EL := Aside0.mk el; have KL := Aside0.mk kl; have BL := Aside0.mk bl; clear el kl bl; have kl0 : wl.cell? ⟨gl, 0, none⟩ = some (.int .i64 0) := (blk_cell KL.out 0).trans rfl; have zkl0 := blk_frozen KL.out 0; have kl1 : wl.cell? ⟨gl, 1, none⟩ = some (.slice none 0 0) := (blk_cell KL.out 1).trans rfl; have zkl1 := blk_frozen KL.out 1))
  have FX := Aside0.mk (show Below w1.heap.size w1 ((wl.setCell ⟨gl, 0, none⟩ (.int .i64 n)).setCell ⟨gl, 1, none⟩ (.slice Al l.length cl)) ∧ ((wl.setCell ⟨gl, 0, none⟩ (.int .i64 n)).setCell ⟨gl, 1, none⟩ (.slice Al l.length cl)).heap[gl]? = some (.cells #[.int .i64 n, .slice Al l.length cl] 30 (0, 0)) from ⟨below_set (j := 1) (below_set (j := 0) BL.out (Nat.le_of_eq EL.out.symm)) (Nat.le_of_eq EL.out.symm), blk_put (blk_put KL.out 0 (.int .i64 n) rfl) 1 (.slice Al l.length cl) rfl⟩)
  clear kl0 zkl0 kl1 zkl1 KL BL EL
  generalize ((wl.setCell ⟨gl, 0, none⟩ (.int .i64 n)).setCell ⟨gl, 1, none⟩ (.slice Al l.length cl)) = w2 at FX ⊢
  have RL := Aside0.mk (Kd.R_below RL.out FX.out.1)
  have RE := Aside0.mk (Kd.R_below RE.out FX.out.1)
  have B1 := Aside0.mk (below_step B1.out FX.out.1)
  have KL := Aside0.mk FX.out.2
  clear FX HDR
  have kl0 : w2.cell? ⟨gl, 0, none⟩ = some (.int .i64 n) := (blk_cell KL.out 0).trans rfl; have kl1 : w2.cell? ⟨gl, 1, none⟩ = some (.slice Al l.length cl) := (blk_cell KL.out 1).trans rfl
  by_cases hz : l.length = 0
  · have hz' : ((l.length : Int) == 0) = true := by simp [hz]
    have hne : (((run n l es).length : Int) == (es.length : Int)) = true := by rw [HRL.out]; exact beq_self_eq_true _
    clear hz
    have HB := Aside0.mk (Below.refl w2.heap.size w2)
    go_wp2_with (go_at_call 29; refine (run_is n _ _ l _ _ es _ (Kd.C_below (Kd.R_reads' RL.out).2.2 HB.out) (Kd.R_reads' RL.out).2.1 (Kd.C_below (Kd.R_reads' RE.out).2.2 HB.out) (Kd.R_reads' RE.out).2.1).mono ?_; rintro e w6 ⟨v6, rfl, hs, hb⟩; obtain ⟨A6, c6, rfl⟩ := Kd.S_slice hs; have B6 := Aside0.mk hb; clear hs hb kl0 kl1)
    go_ret
    exact ⟨rfl, below_step B1.out B6.out⟩
  have hz' : ((l.length : Int) == 0) = false := by simp [hz]
  have HZ := Aside0.mk (show 0 < l.length by omega)
  have hnz : (l.length : Int) ≠ 0 := by omega
  have hnil : l ≠ [] := fun e => hz (by rw [e]; rfl)
  have hdz : decide ((l.length : Int) = 0) = false := decide_eq_false hnz
  obtain ⟨k0, hk0⟩ : ∃ k0, k0 = Int.tmod (wb more 0) (l.length : Int) := ⟨_, rfl⟩
  obtain ⟨k1, hk1⟩ : ∃ k1, k1 = Int.tmod (wb more 2) (l.length : Int) := ⟨_, rfl⟩
  obtain ⟨d0, hd0⟩ : ∃ d0, d0 = wrap64 (1 - wrap64 (2 * Int.tmod (wb more 1) 2)) := ⟨_, rfl⟩
  obtain ⟨d1, hd1⟩ : ∃ d1, d1 = wrap64 (1 - wrap64 (2 * Int.tmod (wb more 3) 2)) := ⟨_, rfl⟩
  have HK := Aside0.mk (show (0 ≤ k0 ∧ k0 < (l.length : Int)) ∧ (0 ≤ k1 ∧ k1 < (l.length : Int)) from ⟨by rw [hk0]; exact tmod_in (wb_in HBM.out (by decide)).1 (by have := HZ.out; omega), by rw [hk1]; exact tmod_in (wb_in HBM.out (by decide)).1 (by have := HZ.out; omega)⟩)
  have HD := Aside0.mk (show (d0 = 1 ∨ d0 = -1) ∧ (d1 = 1 ∨ d1 = -1) from by
    have h0 := tmod_in (m := 2) (wb_in (i := 1) HBM.out (by decide)).1 (by decide)
    have h1 := tmod_in (m := 2) (wb_in (i := 3) HBM.out (by decide)).1 (by decide)
    exact ⟨by rw [hd0]; exact dir_of h0.1 h0.2, by rw [hd1]; exact dir_of h1.1 h1.2⟩)
  have K0 := Aside0.mk hk0
  have K1 := Aside0.mk hk1
  have D0 := Aside0.mk hd0
  have D1 := Aside0.mk hd1
  clear hk0 hk1 hd0 hd1
  obtain ⟨wb0, wb0'⟩ := wb_in (i := 0) HBM.out (by decide)
  obtain ⟨wb1, wb1'⟩ := wb_in (i := 1) HBM.out (by decide)
  go_upto_region 7 with fail
  have BB := Aside0.mk (B1.out)
  go_cut [8] from 20 to 160 (fun v wx => ∃ ga, v = .pointer (some ⟨ga, 0, none⟩) ∧ Aside0 (wx.heap[ga]? = some (.cells #[.int .i64 1, .int .i64 k0, .int .i64 d0] 56 (0, 0))) ∧ Aside0 (Below w2.heap.size w2 wx))
  case first =>
    have ac0 : ∀ m, ((w2.drewN m).alloc (.cells #[.int .i64 0, .int .i64 0, .int .i64 0] 56)).cell? ⟨w2.heap.size, 0, none⟩ = some (.int .i64 0) := fun m => (new3 w2 m).1
    have bc0 : ∀ m k, (((w2.drewN m).alloc (.cells #[.int .i64 0, .int .i64 0, .int .i64 0] 56)).drewN k).cell? ⟨w2.heap.size, 0, none⟩ = some (.int .i64 0) := fun m k => (new3 w2 m).1
    have ac1 : ∀ m, ((w2.drewN m).alloc (.cells #[.int .i64 0, .int .i64 0, .int .i64 0] 56)).cell? ⟨w2.heap.size, 1, none⟩ = some (.int .i64 0) := fun m => (new3 w2 m).2.1
    have bc1 : ∀ m k, (((w2.drewN m).alloc (.cells #[.int .i64 0, .int .i64 0, .int .i64 0] 56)).drewN k).cell? ⟨w2.heap.size, 1, none⟩ = some (.int .i64 0) := fun m k => (new3 w2 m).2.1
    have ac2 : ∀ m, ((w2.drewN m).alloc (.cells #[.int .i64 0, .int .i64 0, .int .i64 0] 56)).cell? ⟨w2.heap.size, 2, none⟩ = some (.int .i64 0) := fun m => (new3 w2 m).2.2.1
    have bc2 : ∀ m k, (((w2.drewN m).alloc (.cells #[.int .i64 0, .int .i64 0, .int .i64 0] 56)).drewN k).cell? ⟨w2.heap.size, 2, none⟩ = some (.int .i64 0) := fun m k => (new3 w2 m).2.2.1
    have af : ∀ m j, ((w2.drewN m).alloc (.cells #[.int .i64 0, .int .i64 0, .int .i64 0] 56)).frozen? ⟨w2.heap.size, j, none⟩ = false := fun m => (new3 w2 m).2.2.2
    have bf : ∀ m k j, (((w2.drewN m).alloc (.cells #[.int .i64 0, .int .i64 0, .int .i64 0] 56)).drewN k).frozen? ⟨w2.heap.size, j, none⟩ = false := fun m k => (new3 w2 m).2.2.2
    go_region_law (first | (go_simp; (go_at_call 64; refine (wb_is _ (Kd.C_below HRM.out (by repeat (first | apply below_alloc | apply pw_below_drewN | apply below_drew1 | exact BB.out))) HCM.out HBM.out (by decide)).mono ?_; rintro e w' ⟨rfl, ⟨nq, rfl⟩⟩)))
    all_goals
      go_wp2_with fail
      go_meet
      refine ⟨_, rfl, ⟨?_⟩, ⟨?_⟩⟩
      · rw [K0.out, D0.out]
        (try simp only [i64_w])
        refine (fill3 (w := w2) (x0 := .int .i64 0) (x1 := .int .i64 0) (x2 := .int .i64 0) ?_ ?_ (Nat.le_refl _)).2
        · first | with_reducible exact newA _ _ _ | with_reducible exact newB _ _ _ _ | with_reducible exact newC _ _ _ | with_reducible exact newD _ _
        · repeat (first | apply below_alloc | apply pw_below_drewN | apply below_drew1 | exact Below.refl _ _)
      · refine (fill3 (w := w2) (x0 := .int .i64 0) (x1 := .int .i64 0) (x2 := .int .i64 0) ?_ ?_ (Nat.le_refl _)).1
        · first | with_reducible exact newA _ _ _ | with_reducible exact newB _ _ _ _ | with_reducible exact newC _ _ _ | with_reducible exact newD _ _
        · repeat (first | apply below_alloc | apply pw_below_drewN | apply below_drew1 | exact Below.refl _ _)
  case rest =>
    obtain ⟨ga, rfl, KA, HB⟩ := hcut
    clear kl0 kl1 wb0 wb0' wb1 wb1' BB
    obtain ⟨wb0, wb0'⟩ := wb_in (i := 2) HBM.out (by decide)
    obtain ⟨wb1, wb1'⟩ := wb_in (i := 3) HBM.out (by decide)
    go_upto_region 8 with fail
    have BB := Aside0.mk (below_step B1.out HB.out)
    go_cut [9] from 20 to 160 (fun v wx => ∃ ga, v = .pointer (some ⟨ga, 0, none⟩) ∧ Aside0 (wx.heap[ga]? = some (.cells #[.int .i64 1, .int .i64 k1, .int .i64 d1] 56 (0, 0))) ∧ Aside0 (Below wc.heap.size wc wx))
    case first =>
      have ac0 : ∀ m, ((wc.drewN m).alloc (.cells #[.int .i64 0, .int .i64 0, .int .i64 0] 56)).cell? ⟨wc.heap.size, 0, none⟩ = some (.int .i64 0) := fun m => (new3 wc m).1
      have bc0 : ∀ m k, (((wc.drewN m).alloc (.cells #[.int .i64 0, .int .i64 0, .int .i64 0] 56)).drewN k).cell? ⟨wc.heap.size, 0, none⟩ = some (.int .i64 0) := fun m k => (new3 wc m).1
      have ac1 : ∀ m, ((wc.drewN m).alloc (.cells #[.int .i64 0, .int .i64 0, .int .i64 0] 56)).cell? ⟨wc.heap.size, 1, none⟩ = some (.int .i64 0) := fun m => (new3 wc m).2.1
      have bc1 : ∀ m k, (((wc.drewN m).alloc (.cells #[.int .i64 0, .int .i64 0, .int .i64 0] 56)).drewN k).cell? ⟨wc.heap.size, 1, none⟩ = some (.int .i64 0) := fun m k => (new3 wc m).2.1
      have ac2 : ∀ m, ((wc.drewN m).alloc (.cells #[.int .i64 0, .int .i64 0, .int .i64 0] 56)).cell? ⟨wc.heap.size, 2, none⟩ = some (.int .i64 0) := fun m => (new3 wc m).2.2.1
      have bc2 : ∀ m k, (((wc.drewN m).alloc (.cells #[.int .i64 0, .int .i64 0, .int .i64 0] 56)).drewN k).cell? ⟨wc.heap.size, 2, none⟩ = some (.int .i64 0) := fun m k => (new3 wc m).2.2.1
      have af : ∀ m j, ((wc.drewN m).alloc (.cells #[.int .i64 0, .int .i64 0, .int .i64 0] 56)).frozen? ⟨wc.heap.size, j, none⟩ = false := fun m => (new3 wc m).2.2.2
      have bf : ∀ m k j, (((wc.drewN m).alloc (.cells #[.int .i64 0, .int .i64 0, .int .i64 0] 56)).drewN k).frozen? ⟨wc.heap.size, j, none⟩ = false := fun m k => (new3 wc m).2.2.2
      go_region_law (first | (go_simp; (go_at_call 64; refine (wb_is _ (Kd.C_below HRM.out (by repeat (first | apply below_alloc | apply pw_below_drewN | apply below_drew1 | exact BB.out))) HCM.out HBM.out (by decide)).mono ?_; rintro e w' ⟨rfl, ⟨nq, rfl⟩⟩)))
      all_goals
        go_wp2_with fail
        go_meet
        refine ⟨_, rfl, ⟨?_⟩, ⟨?_⟩⟩
        · rw [K1.out, D1.out]
          (try simp only [i64_w])
          refine (fill3 (w := wc) (x0 := .int .i64 0) (x1 := .int .i64 0) (x2 := .int .i64 0) ?_ ?_ (Nat.le_refl _)).2
          · first | with_reducible exact newA _ _ _ | with_reducible exact newB _ _ _ _ | with_reducible exact newC _ _ _ | with_reducible exact newD _ _
          · repeat (first | apply below_alloc | apply pw_below_drewN | apply below_drew1 | exact Below.refl _ _)
        · refine (fill3 (w := wc) (x0 := .int .i64 0) (x1 := .int .i64 0) (x2 := .int .i64 0) ?_ ?_ (Nat.le_refl _)).1
          · first | with_reducible exact newA _ _ _ | with_reducible exact newB _ _ _ _ | with_reducible exact newC _ _ _ | with_reducible exact newD _ _
          · repeat (first | apply below_alloc | apply pw_below_drewN | apply below_drew1 | exact Below.refl _ _)
    case rest =>
      obtain ⟨gb, rfl, KB, HB8⟩ := hcut
      have KA := Aside0.mk (blk_below KA.out HB8.out)
      have HB := Aside0.mk (below_step HB.out HB8.out)
      clear HB8
      obtain ⟨⟨r0, r1⟩, s0, s1⟩ := HK.out
      obtain ⟨ad, e, x0, x1⟩ := at_T88 (Kd.C_below (Kd.R_reads' RL.out).2.2 HB.out) k0 r0 r1
      obtain ⟨ad2, e2, z0, z1⟩ := at_T88 (Kd.C_below (Kd.R_reads' RL.out).2.2 HB.out) k1 s0 s1
      cases e
      cases e2
      obtain ⟨x, hx⟩ : ∃ x, x = rd_T88 l k0 := ⟨_, rfl⟩
      obtain ⟨y, hy⟩ : ∃ y, y = rd_T88 l k1 := ⟨_, rfl⟩
      have HX := Aside0.mk hx
      have HY := Aside0.mk hy
      rw [← hx] at x0 x1
      rw [← hy] at z0 z1
      have Z0 := Aside0.mk z0
      have Z1 := Aside0.mk z1
      clear hx hy z0 z1
      have kl1 : wc.cell? ⟨gl, 1, none⟩ = some (.slice (some ad) l.length cl) := (box2 (blk_below KL.out HB.out)).2
      have ka1 : wc.cell? ⟨ga, 1, none⟩ = some (.int .i64 k0) := (blk_cell KA.out 1).trans rfl
      go_upto_region 10 with ((with_reducible refine gate_dst (N := 10) rfl ?_); refine box_event ?hg (N := 10) ?hd (cs := #[.int .i64 0, .int .i64 0]) (t := 88) ?hr ?_; (case hd => rfl); (case hg => rfl); (case hr => first | (go_simp; done) | (go_simp; rfl)); intro gx ex wx kx bx; have EX := Aside0.mk ex; have KX := Aside0.mk kx; have BX := Aside0.mk bx; clear ex kx bx; have kx0 : wx.cell? ⟨gx, 0, none⟩ = some (.int .i64 0) := (blk_cell KX.out 0).trans rfl; have zkx0 := blk_frozen KX.out 0; have kx1 : wx.cell? ⟨gx, 1, none⟩ = some (.int .i64 0) := (blk_cell KX.out 1).trans rfl; have zkx1 := blk_frozen KX.out 1)
      have FX := Aside0.mk (fill2 (y0 := .int .i64 x.f0) (y1 := .int .i64 x.f1) KX.out BX.out (Nat.le_of_eq EX.out.symm))
      clear kx0 zkx0 kx1 zkx1 KX BX EX x0 x1 kl1 ka1
      generalize ((wx.setCell ⟨gx, 0, none⟩ (.int .i64 x.f0)).setCell ⟨gx, 1, none⟩ (.int .i64 x.f1)) = w5 at FX ⊢
      have z0 := pw_cell_below FX.out.1 Z0.out
      have z1 := pw_cell_below FX.out.1 Z1.out
      have KA := Aside0.mk (blk_below KA.out FX.out.1)
      have KB := Aside0.mk (blk_below KB.out FX.out.1)
      have HB := Aside0.mk (below_step HB.out FX.out.1)
      have KX := Aside0.mk FX.out.2
      clear FX Z0 Z1
      have kl1 : w5.cell? ⟨gl, 1, none⟩ = some (.slice (some ad) l.length cl) := (box2 (blk_below KL.out HB.out)).2
      have kb1 : w5.cell? ⟨gb, 1, none⟩ = some (.int .i64 k1) := (blk_cell KB.out 1).trans rfl
      go_upto_region 11 with ((with_reducible refine gate_dst (N := 11) rfl ?_); refine box_event ?hg (N := 11) ?hd (cs := #[.int .i64 0, .int .i64 0]) (t := 88) ?hr ?_; (case hd => rfl); (case hg => rfl); (case hr => first | (go_simp; done) | (go_simp; rfl)); intro gu eu wu ku bu; have EU := Aside0.mk eu; have KU := Aside0.mk ku; have BU := Aside0.mk bu; clear eu ku bu; have ku0 : wu.cell? ⟨gu, 0, none⟩ = some (.int .i64 0) := (blk_cell KU.out 0).trans rfl; have zku0 := blk_frozen KU.out 0; have ku1 : wu.cell? ⟨gu, 1, none⟩ = some (.int .i64 0) := (blk_cell KU.out 1).trans rfl; have zku1 := blk_frozen KU.out 1)
      have FX := Aside0.mk (fill2 (y0 := .int .i64 y.f0) (y1 := .int .i64 y.f1) KU.out BU.out (Nat.le_of_eq EU.out.symm))
      clear ku0 zku0 ku1 zku1 KU BU EU z0 z1 kl1 kb1
      generalize ((wu.setCell ⟨gu, 0, none⟩ (.int .i64 y.f0)).setCell ⟨gu, 1, none⟩ (.int .i64 y.f1)) = w6 at FX ⊢
      have KA := Aside0.mk (blk_below KA.out FX.out.1)
      have KB := Aside0.mk (blk_below KB.out FX.out.1)
      have KX := Aside0.mk (blk_below KX.out FX.out.1)
      have HB := Aside0.mk (below_step HB.out FX.out.1)
      have KY := Aside0.mk FX.out.2
      clear FX
      have kx0 : w6.cell? ⟨gx, 0, none⟩ = some (.int .i64 x.f0) := (box2 KX.out).1
      have kx1 : w6.cell? ⟨gx, 1, none⟩ = some (.int .i64 x.f1) := (box2 KX.out).2
      go_wp2_with fail
      have BQ := Aside0.mk (below_alloc (Below.refl w6.heap.size w6) (.cells #[.int .i64 x.f0, .int .i64 x.f1] 3))
      have KQ : Aside0 ((w6.alloc (.cells #[.int .i64 x.f0, .int .i64 x.f1] 3)).heap[w6.heap.size]? = some (.cells #[.int .i64 x.f0, .int .i64 x.f1] 3 (0, 0))) := ⟨heap_alloc_new w6 _⟩
      clear kx0 kx1
      generalize w6.alloc (.cells #[.int .i64 x.f0, .int .i64 x.f1] 3) = w7 at BQ KQ ⊢
      generalize hgq : w6.heap.size = gq at KQ ⊢
      have KA := Aside0.mk (blk_below KA.out BQ.out)
      have KB := Aside0.mk (blk_below KB.out BQ.out)
      have KY := Aside0.mk (blk_below KY.out BQ.out)
      have HB := Aside0.mk (below_step HB.out BQ.out)
      clear BQ KX hgq
      go_loopg [12, 83] 2 (fun kq v12 v83 w' => ∃ i : Nat, v12 = .bool (commAt x y i) ∧ v83 = .int .i64 i ∧ Aside0 (i + kq = 2) ∧ w' = w7)
      case atStart => exact ⟨0, rfl, rfl, ⟨rfl⟩, rfl⟩
      case round =>
        obtain ⟨i, rfl, rfl, HI, rfl⟩ := hrel
        have hi : (i = 0 ∧ gk = 2) ∨ (i = 1 ∧ gk = 1) ∨ (i = 2 ∧ gk = 0) := by have := HI.out; omega
        have ky0 : wr.cell? ⟨gu, 0, none⟩ = some (.int .i64 y.f0) := (box2 KY.out).1
        have ky1 : wr.cell? ⟨gu, 1, none⟩ = some (.int .i64 y.f1) := (box2 KY.out).2
        have kq0 : wr.cell? ⟨gq, 0, none⟩ = some (.int .i64 x.f0) := (box2 KQ.out).1
        have kq1 : wr.cell? ⟨gq, 1, none⟩ = some (.int .i64 x.f1) := (box2 KQ.out).2
        rcases hi with ⟨rfl, rfl⟩ | ⟨rfl, rfl⟩ | ⟨rfl, rfl⟩
        · by_cases hp : 0 ≤ x.f0
          · have hpd : decide (x.f0 ≥ 0) = true := decide_eq_true hp
            have hpd' : decide (0 ≤ x.f0) = true := decide_eq_true hp
            cases hc0 : commAt x y 0 <;> cases ha : (x.f0 == y.f0) <;> cases hb : (x.f0 == y.f1)
            all_goals
              go_wp2_with fail
              go_roundg 1
              case measure => omega
              case rel => exact ⟨1, congrArg Value.bool (by first | (simp [commAt, comm1, hpd', ha, hb]; done) | (simp only [commAt] at hc0; cases hc0; done) | (simp [commAt, comm1, hpd', ha, hb] at hc0 ⊢; try simp [hc0]; done)), rfl, ⟨rfl⟩, rfl⟩
          · have hpd : decide (x.f0 ≥ 0) = false := decide_eq_false hp
            have hpd' : decide (0 ≤ x.f0) = false := decide_eq_false hp
            cases hc0 : commAt x y 0
            all_goals
              go_wp2_with fail
              go_roundg 1
              case measure => omega
              case rel => exact ⟨1, congrArg Value.bool (by first | (cases hc0; done) | (simp [commAt, comm1, hpd']; done)), rfl, ⟨rfl⟩, rfl⟩
        · by_cases hp : 0 ≤ x.f1
          · have hpd : decide (x.f1 ≥ 0) = true := decide_eq_true hp
            have hpd' : decide (0 ≤ x.f1) = true := decide_eq_true hp
            cases hc0 : commAt x y 1 <;> cases ha : (x.f1 == y.f0) <;> cases hb : (x.f1 == y.f1)
            all_goals
              go_wp2_with fail
              go_roundg 0
              case measure => omega
              case rel => exact ⟨2, congrArg Value.bool (by rw [show commAt x y 2 = (commAt x y 1 || comm1 x.f1 y) from rfl, hc0]; simp [comm1, hpd', ha, hb]), rfl, ⟨rfl⟩, rfl⟩
          · have hpd : decide (x.f1 ≥ 0) = false := decide_eq_false hp
            have hpd' : decide (0 ≤ x.f1) = false := decide_eq_false hp
            cases hc0 : commAt x y 1
            all_goals
              go_wp2_with fail
              go_roundg 0
              case measure => omega
              case rel => exact ⟨2, congrArg Value.bool (by rw [show commAt x y 2 = (commAt x y 1 || comm1 x.f1 y) from rfl, hc0]; simp [comm1, hpd']), rfl, ⟨rfl⟩, rfl⟩
        · go_upto_region 17 with fail
          have KA := Aside0.mk (blk_drew KA.out)
          have KB := Aside0.mk (blk_drew KB.out)
          have HB := Aside0.mk (below_drew1 HB.out)
          have CE := Aside0.mk (Kd.C_below (Kd.R_reads' RE.out).2.2 HB.out)
          refine start_ (n := 8) (S := fun w' => w'.cell? ⟨ga, 0, none⟩ = some (.int .i64 1) ∧ w'.cell? ⟨ga, 1, none⟩ = some (.int .i64 k0) ∧ w'.cell? ⟨ga, 2, none⟩ = some (.int .i64 d0) ∧ w'.cell? ⟨gb, 0, none⟩ = some (.int .i64 1) ∧ w'.cell? ⟨gb, 1, none⟩ = some (.int .i64 k1) ∧ w'.cell? ⟨gb, 2, none⟩ = some (.int .i64 d1)) (ds := []) #[false, false, false, false, false, false, false, false] (by kernel_rfl) rfl rfl ⟨(blk_cell KA.out 0).trans rfl, (blk_cell KA.out 1).trans rfl, (blk_cell KA.out 2).trans rfl, (blk_cell KB.out 0).trans rfl, (blk_cell KB.out 1).trans rfl, (blk_cell KB.out 2).trans rfl⟩ (fun hHeld => ?_)
          refine with_tabW sw_tab17 sw_bits17 (fun HT_ HW_ => ?_)
          generalize hdw : wr.drew = w95 at KA KB HB CE  hHeld ⊢
          clear hdw
          have BW := Aside0.mk (Below.refl w95.heap.size w95)
          refine pure_ (i := 1) (N := some 106) (v := ?_) (a' := ?_) #[false, true, false, false, false, false, false, false] rfl rfl (any_of HT_.out (by kernel_rfl)) (fun _ _ _ h => h) (Or.inl ⟨by rfl, ?_⟩) ?_ ?_
          rotate_left
          · intro w'
            go_simp
            with_reducible rfl
          rotate_left
          · simp only [Act.put, List.setIfInBounds_toArray, List.set_cons_zero, List.set_cons_succ, i64_w, i32_w]
            rfl
          refine take_ (i := 3) (N := some 108) (v := ?_) (a' := ?_) #[false, true, false, true, false, false, false, false] rfl rfl (take_ofW HT_.out HW_.out (by kernel_rfl)) (fun _ _ _ h => h) (Or.inl ⟨by rfl, ?_⟩) hHeld ?_ ?_
          rotate_left
          · rintro w' ⟨s0, s1, s2, s3, s4, s5⟩
            go_simp
            with_reducible rfl
          rotate_left
          · simp only [Act.put, List.setIfInBounds_toArray, List.set_cons_zero, List.set_cons_succ, i64_w, i32_w]
            rfl
          refine take_ (i := 4) (N := some 109) (v := ?_) (a' := ?_) #[false, true, false, true, true, false, false, false] rfl rfl (take_ofW HT_.out HW_.out (by kernel_rfl)) (fun _ _ _ h => h) (Or.inl ⟨by rfl, ?_⟩) hHeld ?_ ?_
          rotate_left
          · rintro w' ⟨s0, s1, s2, s3, s4, s5⟩
            go_simp
            with_reducible rfl
          rotate_left
          · simp only [Act.put, List.setIfInBounds_toArray, List.set_cons_zero, List.set_cons_succ, i64_w, i32_w]
            rfl
          have S1 := Aside0.mk hHeld
          refine join_ (σ := Value × Value × Value) 2 #[true, true, true, true, true, true, false, false] (fun s_ => [(105, s_.1), (107, s_.2.1), (110, s_.2.2)]) (fun s_ w' => (w'.cell? ⟨ga, 0, none⟩ = some (.int .i64 1) ∧ w'.cell? ⟨ga, 1, none⟩ = some (.int .i64 k0) ∧ w'.cell? ⟨ga, 2, none⟩ = some (.int .i64 d0) ∧ w'.cell? ⟨gb, 0, none⟩ = some (.int .i64 1) ∧ w'.cell? ⟨gb, 1, none⟩ = some (.int .i64 k1) ∧ w'.cell? ⟨gb, 2, none⟩ = some (.int .i64 d1)) ∧ (Kd.R k56 56 w' w95.heap.size (fun _ => True) s_.2.1 es) ∧ (Kd.R k56 56 w' w95.heap.size (fun _ => True) s_.2.2 [(⟨1, k0, d0⟩ : S56), (⟨1, k1, d1⟩ : S56)]) ∧ (Below w95.heap.size w95 w')) ?_ ?_
          rotate_left
          · intro hCont
            have S0 := Aside0.mk hHeld
            refine two_ (i := 0) (j := 5) (Ni := some 105) (Nj := some 110) #[true, true, false, true, true, false, false, false] #[false, true, false, true, true, true, false, false] rfl rfl rfl rfl (two_of HT_.out (by kernel_rfl)) (by decide) (by decide) (fun K hK => ?_) (fun K hK => ?_)
            · skip
              refine Kd.R_lit_step k56 (w0 := w95) w95.heap.size 56 ?hg (N := 105) ?hd (xs := ([] : List S56)) (inner := []) (ok := fun _ => True) (okp := fun _ => False) ?hr ?hp (fun _ _ => trivial) trivial BW.out (below_size BW.out) (by simp) ?_; (case hd => rfl); (case hg => rfl); (case hr => first | (go_simp; done) | (go_simp; rfl)); (case hp => exact (Reps.none _ _))
              intro v5 w5 ho hb hg hn
              have R5 := Aside0.mk ho
              have BW := Aside0.mk hb
              refine hK.out _ _ ⟨(pw_cell_below (lit_below hg) hHeld.1), (pw_cell_below (lit_below hg) hHeld.2.1), (pw_cell_below (lit_below hg) hHeld.2.2.1), (pw_cell_below (lit_below hg) hHeld.2.2.2.1), (pw_cell_below (lit_below hg) hHeld.2.2.2.2.1), (pw_cell_below (lit_below hg) hHeld.2.2.2.2.2)⟩ (fun hHeld => ?_)
              clear ho hb hg hn
              clear hK K
              refine norm_ (a' := ?_) ?_ ?_
              rotate_left
              · show Act.put _ (some 105) _ = _
                simp only [Act.put, List.setIfInBounds_toArray, List.set_cons_zero, List.set_cons_succ, i64_w, i32_w]
                rfl
              refine two_ (i := 2) (j := 5) (Ni := some 107) (Nj := some 110) #[true, true, true, true, true, false, false, false] #[true, true, false, true, true, true, false, false] rfl rfl rfl rfl (two_of HT_.out (by kernel_rfl)) (by decide) (by decide) (fun K hK => ?_) (fun K hK => ?_)
              · skip
                refine Kd.R_append_rows_step k56 (w0 := w95) w95.heap.size (by rfl) (.tmp 105) (.tmp 106) 35 56 (.agg #[(.int .i64 0), (.int .i64 0), (.int .i64 0)]) 24 rfl Try.underlying35 info56 rfl (by decide) (by omega) v5 [] es _ _ _ (fun _ => True) (fun _ => False) rfl rfl R5.out (Kd.C_below CE.out BW.out) (fun x cs h => h) (fun _ h => h.elim) (fun _ _ => trivial) BW.out (below_size BW.out) (by have := HLEN.out; simp; omega) ?_
                intro v7 w7 ho hb hg hat
                have R7 := Aside0.mk ho
                have BW := Aside0.mk hb
                refine hK.out _ _ ⟨(pw_cell_below hb (S0.out.1)), (pw_cell_below hb (S0.out.2.1)), (pw_cell_below hb (S0.out.2.2.1)), (pw_cell_below hb (S0.out.2.2.2.1)), (pw_cell_below hb (S0.out.2.2.2.2.1)), (pw_cell_below hb (S0.out.2.2.2.2.2))⟩ (fun hHeld => ?_)
                clear ho hb hg hat
                clear hK K
                refine norm_ (a' := ?_) ?_ ?_
                rotate_left
                · show Act.put _ (some 107) _ = _
                  simp only [Act.put, List.setIfInBounds_toArray, List.set_cons_zero, List.set_cons_succ, i64_w, i32_w]
                  rfl
                refine one_ (i := 5) (N := some 110) #[true, true, true, true, true, true, false, false] rfl rfl (one_of HT_.out (by kernel_rfl)) (by decide) (fun K hK => ?_)
                refine Kd.R_lit_step k56 (w0 := w95) w95.heap.size 56 ?hg (N := 110) ?hd (xs := [(⟨1, k0, d0⟩ : S56), (⟨1, k1, d1⟩ : S56)]) (inner := [.int .i64 1, .int .i64 k0, .int .i64 d0, .int .i64 1, .int .i64 k1, .int .i64 d1]) (ok := fun _ => True) (okp := fun _ => False) ?hr ?hp (fun _ hk => hk.elim) trivial BW.out (below_size BW.out) (by simp) ?_; (case hd => rfl); (case hg => rfl); (case hr => first | (go_simp; done) | (go_simp; rfl)); (case hp => exact (Reps.c3 (show Kd.M k56 _ _ _ (⟨1, k0, d0⟩ : S56) [.int .i64 1, .int .i64 k0, .int .i64 d0] from (k56_mkM _ _ _ (⟨1, k0, d0⟩ : S56))) (Reps.c3 (show Kd.M k56 _ _ _ (⟨1, k1, d1⟩ : S56) [.int .i64 1, .int .i64 k1, .int .i64 d1] from (k56_mkM _ _ _ (⟨1, k1, d1⟩ : S56))) (Reps.none _ _))))
                intro v10 w10 ho hb hg hn
                have R10 := Aside0.mk ho
                have R7 := Aside0.mk (Kd.R_below R7.out (lit_below hg))
                have BW := Aside0.mk hb
                refine hK.out _ _ ⟨(pw_cell_below (lit_below hg) hHeld.1), (pw_cell_below (lit_below hg) hHeld.2.1), (pw_cell_below (lit_below hg) hHeld.2.2.1), (pw_cell_below (lit_below hg) hHeld.2.2.2.1), (pw_cell_below (lit_below hg) hHeld.2.2.2.2.1), (pw_cell_below (lit_below hg) hHeld.2.2.2.2.2)⟩ (fun hHeld => ?_)
                clear ho hb hg hn
                clear hK K
                refine norm_ (a' := ?_) ?_ ?_
                rotate_left
                · show Act.put _ (some 110) _ = _
                  simp only [Act.put, List.setIfInBounds_toArray, List.set_cons_zero, List.set_cons_succ, i64_w, i32_w]
                  rfl
                exact norm_ (by simp only [putAll, Act.put, List.setIfInBounds_toArray, List.set_cons_zero, List.set_cons_succ]) (hCont (v5, v7, v10) _ ⟨hHeld, R7.out, R10.out, BW.out⟩)
              · skip
                refine Kd.R_lit_step k56 (w0 := w95) w95.heap.size 56 ?hg (N := 110) ?hd (xs := [(⟨1, k0, d0⟩ : S56), (⟨1, k1, d1⟩ : S56)]) (inner := [.int .i64 1, .int .i64 k0, .int .i64 d0, .int .i64 1, .int .i64 k1, .int .i64 d1]) (ok := fun k_ => some k_ ≠ (v5 : Value).ownBlock) (okp := fun _ => False) ?hr ?hp (fun _ hk => hk.elim) (lit_fresh R5.out) BW.out (below_size BW.out) (by simp) ?_; (case hd => rfl); (case hg => rfl); (case hr => first | (go_simp; done) | (go_simp; rfl)); (case hp => exact (Reps.c3 (show Kd.M k56 _ _ _ (⟨1, k0, d0⟩ : S56) [.int .i64 1, .int .i64 k0, .int .i64 d0] from (k56_mkM _ _ _ (⟨1, k0, d0⟩ : S56))) (Reps.c3 (show Kd.M k56 _ _ _ (⟨1, k1, d1⟩ : S56) [.int .i64 1, .int .i64 k1, .int .i64 d1] from (k56_mkM _ _ _ (⟨1, k1, d1⟩ : S56))) (Reps.none _ _))))
                intro v10 w10 ho hb hg hn
                have R10 := Aside0.mk ho
                have R5 := Aside0.mk (Kd.R_below R5.out (lit_below hg))
                have BW := Aside0.mk hb
                refine hK.out _ _ ⟨(pw_cell_below (lit_below hg) hHeld.1), (pw_cell_below (lit_below hg) hHeld.2.1), (pw_cell_below (lit_below hg) hHeld.2.2.1), (pw_cell_below (lit_below hg) hHeld.2.2.2.1), (pw_cell_below (lit_below hg) hHeld.2.2.2.2.1), (pw_cell_below (lit_below hg) hHeld.2.2.2.2.2)⟩ (fun hHeld => ?_)
                clear ho hb hg hn
                clear hK K
                refine norm_ (a' := ?_) ?_ ?_
                rotate_left
                · show Act.put _ (some 110) _ = _
                  simp only [Act.put, List.setIfInBounds_toArray, List.set_cons_zero, List.set_cons_succ, i64_w, i32_w]
                  rfl
                refine one_ (i := 2) (N := some 107) #[true, true, true, true, true, true, false, false] rfl rfl (one_of HT_.out (by kernel_rfl)) (by decide) (fun K hK => ?_)
                refine Kd.R_append_rows_step k56 (w0 := w95) w95.heap.size (by rfl) (.tmp 105) (.tmp 106) 35 56 (.agg #[(.int .i64 0), (.int .i64 0), (.int .i64 0)]) 24 rfl Try.underlying35 info56 rfl (by decide) (by omega) v5 [] es _ _ _ (fun _ => True) (fun _ => False) rfl rfl R5.out (Kd.C_below CE.out BW.out) (fun x cs h => h) (fun _ h => h.elim) (fun _ _ => trivial) BW.out (below_size BW.out) (by have := HLEN.out; simp; omega) ?_
                intro v7 w7 ho hb hg hat
                have R7 := Aside0.mk ho
                have R10 := Aside0.mk (carry_110 R10.out hg)
                have BW := Aside0.mk hb
                refine hK.out _ _ ⟨(pw_cell_below hb (S0.out.1)), (pw_cell_below hb (S0.out.2.1)), (pw_cell_below hb (S0.out.2.2.1)), (pw_cell_below hb (S0.out.2.2.2.1)), (pw_cell_below hb (S0.out.2.2.2.2.1)), (pw_cell_below hb (S0.out.2.2.2.2.2))⟩ (fun hHeld => ?_)
                clear ho hb hg hat
                clear hK K
                refine norm_ (a' := ?_) ?_ ?_
                rotate_left
                · show Act.put _ (some 107) _ = _
                  simp only [Act.put, List.setIfInBounds_toArray, List.set_cons_zero, List.set_cons_succ, i64_w, i32_w]
                  rfl
                exact norm_ (by simp only [putAll, Act.put, List.setIfInBounds_toArray, List.set_cons_zero, List.set_cons_succ]) (hCont (v5, v7, v10) _ ⟨hHeld, R7.out, R10.out, BW.out⟩)
            · skip
              refine Kd.R_lit_step k56 (w0 := w95) w95.heap.size 56 ?hg (N := 110) ?hd (xs := [(⟨1, k0, d0⟩ : S56), (⟨1, k1, d1⟩ : S56)]) (inner := [.int .i64 1, .int .i64 k0, .int .i64 d0, .int .i64 1, .int .i64 k1, .int .i64 d1]) (ok := fun _ => True) (okp := fun _ => False) ?hr ?hp (fun _ hk => hk.elim) trivial BW.out (below_size BW.out) (by simp) ?_; (case hd => rfl); (case hg => rfl); (case hr => first | (go_simp; done) | (go_simp; rfl)); (case hp => exact (Reps.c3 (show Kd.M k56 _ _ _ (⟨1, k0, d0⟩ : S56) [.int .i64 1, .int .i64 k0, .int .i64 d0] from (k56_mkM _ _ _ (⟨1, k0, d0⟩ : S56))) (Reps.c3 (show Kd.M k56 _ _ _ (⟨1, k1, d1⟩ : S56) [.int .i64 1, .int .i64 k1, .int .i64 d1] from (k56_mkM _ _ _ (⟨1, k1, d1⟩ : S56))) (Reps.none _ _))))
              intro v10 w10 ho hb hg hn
              have R10 := Aside0.mk ho
              have BW := Aside0.mk hb
              refine hK.out _ _ ⟨(pw_cell_below (lit_below hg) hHeld.1), (pw_cell_below (lit_below hg) hHeld.2.1), (pw_cell_below (lit_below hg) hHeld.2.2.1), (pw_cell_below (lit_below hg) hHeld.2.2.2.1), (pw_cell_below (lit_below hg) hHeld.2.2.2.2.1), (pw_cell_below (lit_below hg) hHeld.2.2.2.2.2)⟩ (fun hHeld => ?_)
              clear ho hb hg hn
              clear hK K
              refine norm_ (a' := ?_) ?_ ?_
              rotate_left
              · show Act.put _ (some 110) _ = _
                simp only [Act.put, List.setIfInBounds_toArray, List.set_cons_zero, List.set_cons_succ, i64_w, i32_w]
                rfl
              refine one_ (i := 0) (N := some 105) #[true, true, false, true, true, true, false, false] rfl rfl (one_of HT_.out (by kernel_rfl)) (by decide) (fun K hK => ?_)
              refine Kd.R_lit_step k56 (w0 := w95) w95.heap.size 56 ?hg (N := 105) ?hd (xs := ([] : List S56)) (inner := []) (ok := fun _ => True) (okp := fun _ => False) ?hr ?hp (fun _ _ => trivial) trivial BW.out (below_size BW.out) (by simp) ?_; (case hd => rfl); (case hg => rfl); (case hr => first | (go_simp; done) | (go_simp; rfl)); (case hp => exact (Reps.none _ _))
              intro v5 w5 ho hb hg hn
              have R5 := Aside0.mk ho
              have R10 := Aside0.mk (keep_110 R10.out hg hn)
              have BW := Aside0.mk hb
              refine hK.out _ _ ⟨(pw_cell_below (lit_below hg) hHeld.1), (pw_cell_below (lit_below hg) hHeld.2.1), (pw_cell_below (lit_below hg) hHeld.2.2.1), (pw_cell_below (lit_below hg) hHeld.2.2.2.1), (pw_cell_below (lit_below hg) hHeld.2.2.2.2.1), (pw_cell_below (lit_below hg) hHeld.2.2.2.2.2)⟩ (fun hHeld => ?_)
              clear ho hb hg hn
              clear hK K
              refine norm_ (a' := ?_) ?_ ?_
              rotate_left
              · show Act.put _ (some 105) _ = _
                simp only [Act.put, List.setIfInBounds_toArray, List.set_cons_zero, List.set_cons_succ, i64_w, i32_w]
                rfl
              refine one_ (i := 2) (N := some 107) #[true, true, true, true, true, true, false, false] rfl rfl (one_of HT_.out (by kernel_rfl)) (by decide) (fun K hK => ?_)
              refine Kd.R_append_rows_step k56 (w0 := w95) w95.heap.size (by rfl) (.tmp 105) (.tmp 106) 35 56 (.agg #[(.int .i64 0), (.int .i64 0), (.int .i64 0)]) 24 rfl Try.underlying35 info56 rfl (by decide) (by omega) v5 [] es _ _ _ (fun _ => True) (fun _ => False) rfl rfl R5.out (Kd.C_below CE.out BW.out) (fun x cs h => h) (fun _ h => h.elim) (fun _ _ => trivial) BW.out (below_size BW.out) (by have := HLEN.out; simp; omega) ?_
              intro v7 w7 ho hb hg hat
              have R7 := Aside0.mk ho
              have R10 := Aside0.mk (carry_110 R10.out hg)
              have BW := Aside0.mk hb
              refine hK.out _ _ ⟨(pw_cell_below hb (S0.out.1)), (pw_cell_below hb (S0.out.2.1)), (pw_cell_below hb (S0.out.2.2.1)), (pw_cell_below hb (S0.out.2.2.2.1)), (pw_cell_below hb (S0.out.2.2.2.2.1)), (pw_cell_below hb (S0.out.2.2.2.2.2))⟩ (fun hHeld => ?_)
              clear ho hb hg hat
              clear hK K
              refine norm_ (a' := ?_) ?_ ?_
              rotate_left
              · show Act.put _ (some 107) _ = _
                simp only [Act.put, List.setIfInBounds_toArray, List.set_cons_zero, List.set_cons_succ, i64_w, i32_w]
                rfl
              exact norm_ (by simp only [putAll, Act.put, List.setIfInBounds_toArray, List.set_cons_zero, List.set_cons_succ]) (hCont (v5, v7, v10) _ ⟨hHeld, R7.out, R10.out, BW.out⟩)
          rintro ⟨v5, v7, v10⟩ w11 ⟨hS, h7, h10, hbw⟩
          obtain ⟨A10, c10, rfl⟩ := Kd.R_slice h10
          have R7 := Aside0.mk h7
          have R10 := Aside0.mk (Kd.R_reads' h10)
          have BW := Aside0.mk hbw
          clear h7 h10 hbw hHeld
          refine norm_ (a' := ?_) ?_ ?_
          rotate_left
          · simp only [putAll, Act.put, List.setIfInBounds_toArray, List.set_cons_zero, List.set_cons_succ]
            rfl
          refine one_ (i := 6) (N := some 111) #[true, true, true, true, true, true, true, false] rfl rfl (one_of HT_.out (by kernel_rfl)) (by decide) (fun K hK => ?_)
          refine Kd.R_append_rows_step k56 (w0 := w95) w95.heap.size (by rfl) (.tmp 107) (.tmp 110) 35 56 (.agg #[(.int .i64 0), (.int .i64 0), (.int .i64 0)]) 24 rfl Try.underlying35 info56 rfl (by decide) (by omega) v7 es [(⟨1, k0, d0⟩ : S56), (⟨1, k1, d1⟩ : S56)] _ _ _ (fun _ => True) (fun _ => False) rfl rfl R7.out R10.out.2.2 (fun x cs h => h) (fun _ h => h.elim) (fun _ _ => trivial) BW.out (below_size BW.out) (by have := HLEN.out; simp; omega) ?_
          intro v15 w12 ho hb hg hat
          have Rv15 := Aside0.mk ho
          have BW := Aside0.mk hb
          refine hK.out _ _ ⟨(pw_cell_below hb (S1.out.1)), (pw_cell_below hb (S1.out.2.1)), (pw_cell_below hb (S1.out.2.2.1)), (pw_cell_below hb (S1.out.2.2.2.1)), (pw_cell_below hb (S1.out.2.2.2.2.1)), (pw_cell_below hb (S1.out.2.2.2.2.2))⟩ (fun hHeld => ?_)
          clear ho hb hg hat
          clear hK K
          refine norm_ (a' := ?_) ?_ ?_
          rotate_left
          · show Act.put _ (some 111) _ = _
            simp only [Act.put, List.setIfInBounds_toArray, List.set_cons_zero, List.set_cons_succ, i64_w, i32_w]
            rfl
          refine pure_ (i := 7) (N := some 15) (v := ?_) (a' := ?_) #[true, true, true, true, true, true, true, true] rfl rfl (any_of HT_.out (by kernel_rfl)) (fun _ _ _ h => h) (Or.inl ⟨by rfl, ?_⟩) ?_ ?_
          rotate_left
          · intro w'
            go_simp
            with_reducible rfl
          rotate_left
          · simp only [Act.put, List.setIfInBounds_toArray, List.set_cons_zero, List.set_cons_succ, i64_w, i32_w]
            rfl
          refine done_ (done_of HT_.out (by kernel_rfl)) ?_
          have KA := Aside0.mk (blk_below KA.out BW.out)
          have KB := Aside0.mk (blk_below KB.out BW.out)
          have HB := Aside0.mk (below_step HB.out BW.out)
          clear S1 CE BW R7 R10 hHeld
          obtain ⟨A15, c15, rfl⟩ := Kd.R_slice Rv15.out
          obtain ⟨e1, he1⟩ : ∃ e1, e1 = es ++ [(⟨1, k0, d0⟩ : S56), ⟨1, k1, d1⟩] := ⟨_, rfl⟩
          rw [← he1] at Rv15 ⊢
          go_upto_region 18 with fail
          have Rv15 := Aside0.mk (Kd.R_below Rv15.out (below_drew1 (Below.refl _ _)))
          have KA := Aside0.mk (blk_drew KA.out)
          have KB := Aside0.mk (blk_drew KB.out)
          have HB := Aside0.mk (below_drew1 HB.out)
          have CE := Aside0.mk (Kd.C_below (Kd.R_reads' RE.out).2.2 HB.out)
          refine start_ (n := 8) (S := fun w' => w'.cell? ⟨gb, 0, none⟩ = some (.int .i64 1) ∧ w'.cell? ⟨gb, 1, none⟩ = some (.int .i64 k1) ∧ w'.cell? ⟨gb, 2, none⟩ = some (.int .i64 d1) ∧ w'.cell? ⟨ga, 0, none⟩ = some (.int .i64 1) ∧ w'.cell? ⟨ga, 1, none⟩ = some (.int .i64 k0) ∧ w'.cell? ⟨ga, 2, none⟩ = some (.int .i64 d0)) (ds := []) #[false, false, false, false, false, false, false, false] (by kernel_rfl) rfl rfl ⟨(blk_cell KB.out 0).trans rfl, (blk_cell KB.out 1).trans rfl, (blk_cell KB.out 2).trans rfl, (blk_cell KA.out 0).trans rfl, (blk_cell KA.out 1).trans rfl, (blk_cell KA.out 2).trans rfl⟩ (fun hHeld => ?_)
          refine with_tabW sw_tab18 sw_bits18 (fun HT_ HW_ => ?_)
          generalize hdw : w12.drew = w95 at KA KB HB CE Rv15 hHeld ⊢
          clear hdw
          have BW := Aside0.mk (Below.refl w95.heap.size w95)
          refine pure_ (i := 1) (N := some 113) (v := ?_) (a' := ?_) #[false, true, false, false, false, false, false, false] rfl rfl (any_of HT_.out (by kernel_rfl)) (fun _ _ _ h => h) (Or.inl ⟨by rfl, ?_⟩) ?_ ?_
          rotate_left
          · intro w'
            go_simp
            with_reducible rfl
          rotate_left
          · simp only [Act.put, List.setIfInBounds_toArray, List.set_cons_zero, List.set_cons_succ, i64_w, i32_w]
            rfl
          refine take_ (i := 3) (N := some 115) (v := ?_) (a' := ?_) #[false, true, false, true, false, false, false, false] rfl rfl (take_ofW HT_.out HW_.out (by kernel_rfl)) (fun _ _ _ h => h) (Or.inl ⟨by rfl, ?_⟩) hHeld ?_ ?_
          rotate_left
          · rintro w' ⟨s0, s1, s2, s3, s4, s5⟩
            go_simp
            with_reducible rfl
          rotate_left
          · simp only [Act.put, List.setIfInBounds_toArray, List.set_cons_zero, List.set_cons_succ, i64_w, i32_w]
            rfl
          refine take_ (i := 4) (N := some 116) (v := ?_) (a' := ?_) #[false, true, false, true, true, false, false, false] rfl rfl (take_ofW HT_.out HW_.out (by kernel_rfl)) (fun _ _ _ h => h) (Or.inl ⟨by rfl, ?_⟩) hHeld ?_ ?_
          rotate_left
          · rintro w' ⟨s0, s1, s2, s3, s4, s5⟩
            go_simp
            with_reducible rfl
          rotate_left
          · simp only [Act.put, List.setIfInBounds_toArray, List.set_cons_zero, List.set_cons_succ, i64_w, i32_w]
            rfl
          have S1 := Aside0.mk hHeld
          refine join_ (σ := Value × Value × Value) 2 #[true, true, true, true, true, true, false, false] (fun s_ => [(112, s_.1), (114, s_.2.1), (117, s_.2.2)]) (fun s_ w' => (w'.cell? ⟨gb, 0, none⟩ = some (.int .i64 1) ∧ w'.cell? ⟨gb, 1, none⟩ = some (.int .i64 k1) ∧ w'.cell? ⟨gb, 2, none⟩ = some (.int .i64 d1) ∧ w'.cell? ⟨ga, 0, none⟩ = some (.int .i64 1) ∧ w'.cell? ⟨ga, 1, none⟩ = some (.int .i64 k0) ∧ w'.cell? ⟨ga, 2, none⟩ = some (.int .i64 d0)) ∧ (Kd.R k56 56 w' w95.heap.size (fun _ => True) s_.2.1 es) ∧ (Kd.R k56 56 w' w95.heap.size (fun _ => True) s_.2.2 [(⟨1, k1, d1⟩ : S56), (⟨1, k0, d0⟩ : S56)]) ∧ (Below w95.heap.size w95 w')) ?_ ?_
          rotate_left
          · intro hCont
            have S0 := Aside0.mk hHeld
            refine two_ (i := 0) (j := 5) (Ni := some 112) (Nj := some 117) #[true, true, false, true, true, false, false, false] #[false, true, false, true, true, true, false, false] rfl rfl rfl rfl (two_of HT_.out (by kernel_rfl)) (by decide) (by decide) (fun K hK => ?_) (fun K hK => ?_)
            · skip
              refine Kd.R_lit_step k56 (w0 := w95) w95.heap.size 56 ?hg (N := 112) ?hd (xs := ([] : List S56)) (inner := []) (ok := fun _ => True) (okp := fun _ => False) ?hr ?hp (fun _ _ => trivial) trivial BW.out (below_size BW.out) (by simp) ?_; (case hd => rfl); (case hg => rfl); (case hr => first | (go_simp; done) | (go_simp; rfl)); (case hp => exact (Reps.none _ _))
              intro v5 w5 ho hb hg hn
              have R5 := Aside0.mk ho
              have BW := Aside0.mk hb
              refine hK.out _ _ ⟨(pw_cell_below (lit_below hg) hHeld.1), (pw_cell_below (lit_below hg) hHeld.2.1), (pw_cell_below (lit_below hg) hHeld.2.2.1), (pw_cell_below (lit_below hg) hHeld.2.2.2.1), (pw_cell_below (lit_below hg) hHeld.2.2.2.2.1), (pw_cell_below (lit_below hg) hHeld.2.2.2.2.2)⟩ (fun hHeld => ?_)
              clear ho hb hg hn
              clear hK K
              refine norm_ (a' := ?_) ?_ ?_
              rotate_left
              · show Act.put _ (some 112) _ = _
                simp only [Act.put, List.setIfInBounds_toArray, List.set_cons_zero, List.set_cons_succ, i64_w, i32_w]
                rfl
              refine two_ (i := 2) (j := 5) (Ni := some 114) (Nj := some 117) #[true, true, true, true, true, false, false, false] #[true, true, false, true, true, true, false, false] rfl rfl rfl rfl (two_of HT_.out (by kernel_rfl)) (by decide) (by decide) (fun K hK => ?_) (fun K hK => ?_)
              · skip
                refine Kd.R_append_rows_step k56 (w0 := w95) w95.heap.size (by rfl) (.tmp 112) (.tmp 113) 35 56 (.agg #[(.int .i64 0), (.int .i64 0), (.int .i64 0)]) 24 rfl Try.underlying35 info56 rfl (by decide) (by omega) v5 [] es _ _ _ (fun _ => True) (fun _ => False) rfl rfl R5.out (Kd.C_below CE.out BW.out) (fun x cs h => h) (fun _ h => h.elim) (fun _ _ => trivial) BW.out (below_size BW.out) (by have := HLEN.out; simp; omega) ?_
                intro v7 w7 ho hb hg hat
                have R7 := Aside0.mk ho
                have BW := Aside0.mk hb
                refine hK.out _ _ ⟨(pw_cell_below hb (S0.out.1)), (pw_cell_below hb (S0.out.2.1)), (pw_cell_below hb (S0.out.2.2.1)), (pw_cell_below hb (S0.out.2.2.2.1)), (pw_cell_below hb (S0.out.2.2.2.2.1)), (pw_cell_below hb (S0.out.2.2.2.2.2))⟩ (fun hHeld => ?_)
                clear ho hb hg hat
                clear hK K
                refine norm_ (a' := ?_) ?_ ?_
                rotate_left
                · show Act.put _ (some 114) _ = _
                  simp only [Act.put, List.setIfInBounds_toArray, List.set_cons_zero, List.set_cons_succ, i64_w, i32_w]
                  rfl
                refine one_ (i := 5) (N := some 117) #[true, true, true, true, true, true, false, false] rfl rfl (one_of HT_.out (by kernel_rfl)) (by decide) (fun K hK => ?_)
                refine Kd.R_lit_step k56 (w0 := w95) w95.heap.size 56 ?hg (N := 117) ?hd (xs := [(⟨1, k1, d1⟩ : S56), (⟨1, k0, d0⟩ : S56)]) (inner := [.int .i64 1, .int .i64 k1, .int .i64 d1, .int .i64 1, .int .i64 k0, .int .i64 d0]) (ok := fun _ => True) (okp := fun _ => False) ?hr ?hp (fun _ hk => hk.elim) trivial BW.out (below_size BW.out) (by simp) ?_; (case hd => rfl); (case hg => rfl); (case hr => first | (go_simp; done) | (go_simp; rfl)); (case hp => exact (Reps.c3 (show Kd.M k56 _ _ _ (⟨1, k1, d1⟩ : S56) [.int .i64 1, .int .i64 k1, .int .i64 d1] from (k56_mkM _ _ _ (⟨1, k1, d1⟩ : S56))) (Reps.c3 (show Kd.M k56 _ _ _ (⟨1, k0, d0⟩ : S56) [.int .i64 1, .int .i64 k0, .int .i64 d0] from (k56_mkM _ _ _ (⟨1, k0, d0⟩ : S56))) (Reps.none _ _))))
                intro v10 w10 ho hb hg hn
                have R10 := Aside0.mk ho
                have R7 := Aside0.mk (Kd.R_below R7.out (lit_below hg))
                have BW := Aside0.mk hb
                refine hK.out _ _ ⟨(pw_cell_below (lit_below hg) hHeld.1), (pw_cell_below (lit_below hg) hHeld.2.1), (pw_cell_below (lit_below hg) hHeld.2.2.1), (pw_cell_below (lit_below hg) hHeld.2.2.2.1), (pw_cell_below (lit_below hg) hHeld.2.2.2.2.1), (pw_cell_below (lit_below hg) hHeld.2.2.2.2.2)⟩ (fun hHeld => ?_)
                clear ho hb hg hn
                clear hK K
                refine norm_ (a' := ?_) ?_ ?_
                rotate_left
                · show Act.put _ (some 117) _ = _
                  simp only [Act.put, List.setIfInBounds_toArray, List.set_cons_zero, List.set_cons_succ, i64_w, i32_w]
                  rfl
                exact norm_ (by simp only [putAll, Act.put, List.setIfInBounds_toArray, List.set_cons_zero, List.set_cons_succ]) (hCont (v5, v7, v10) _ ⟨hHeld, R7.out, R10.out, BW.out⟩)
              · skip
                refine Kd.R_lit_step k56 (w0 := w95) w95.heap.size 56 ?hg (N := 117) ?hd (xs := [(⟨1, k1, d1⟩ : S56), (⟨1, k0, d0⟩ : S56)]) (inner := [.int .i64 1, .int .i64 k1, .int .i64 d1, .int .i64 1, .int .i64 k0, .int .i64 d0]) (ok := fun k_ => some k_ ≠ (v5 : Value).ownBlock) (okp := fun _ => False) ?hr ?hp (fun _ hk => hk.elim) (lit_fresh R5.out) BW.out (below_size BW.out) (by simp) ?_; (case hd => rfl); (case hg => rfl); (case hr => first | (go_simp; done) | (go_simp; rfl)); (case hp => exact (Reps.c3 (show Kd.M k56 _ _ _ (⟨1, k1, d1⟩ : S56) [.int .i64 1, .int .i64 k1, .int .i64 d1] from (k56_mkM _ _ _ (⟨1, k1, d1⟩ : S56))) (Reps.c3 (show Kd.M k56 _ _ _ (⟨1, k0, d0⟩ : S56) [.int .i64 1, .int .i64 k0, .int .i64 d0] from (k56_mkM _ _ _ (⟨1, k0, d0⟩ : S56))) (Reps.none _ _))))
                intro v10 w10 ho hb hg hn
                have R10 := Aside0.mk ho
                have R5 := Aside0.mk (Kd.R_below R5.out (lit_below hg))
                have BW := Aside0.mk hb
                refine hK.out _ _ ⟨(pw_cell_below (lit_below hg) hHeld.1), (pw_cell_below (lit_below hg) hHeld.2.1), (pw_cell_below (lit_below hg) hHeld.2.2.1), (pw_cell_below (lit_below hg) hHeld.2.2.2.1), (pw_cell_below (lit_below hg) hHeld.2.2.2.2.1), (pw_cell_below (lit_below hg) hHeld.2.2.2.2.2)⟩ (fun hHeld => ?_)
                clear ho hb hg hn
                clear hK K
                refine norm_ (a' := ?_) ?_ ?_
                rotate_left
                · show Act.put _ (some 117) _ = _
                  simp only [Act.put, List.setIfInBounds_toArray, List.set_cons_zero, List.set_cons_succ, i64_w, i32_w]
                  rfl
                refine one_ (i := 2) (N := some 114) #[true, true, true, true, true, true, false, false] rfl rfl (one_of HT_.out (by kernel_rfl)) (by decide) (fun K hK => ?_)
                refine Kd.R_append_rows_step k56 (w0 := w95) w95.heap.size (by rfl) (.tmp 112) (.tmp 113) 35 56 (.agg #[(.int .i64 0), (.int .i64 0), (.int .i64 0)]) 24 rfl Try.underlying35 info56 rfl (by decide) (by omega) v5 [] es _ _ _ (fun _ => True) (fun _ => False) rfl rfl R5.out (Kd.C_below CE.out BW.out) (fun x cs h => h) (fun _ h => h.elim) (fun _ _ => trivial) BW.out (below_size BW.out) (by have := HLEN.out; simp; omega) ?_
                intro v7 w7 ho hb hg hat
                have R7 := Aside0.mk ho
                have R10 := Aside0.mk (carry_110 R10.out hg)
                have BW := Aside0.mk hb
                refine hK.out _ _ ⟨(pw_cell_below hb (S0.out.1)), (pw_cell_below hb (S0.out.2.1)), (pw_cell_below hb (S0.out.2.2.1)), (pw_cell_below hb (S0.out.2.2.2.1)), (pw_cell_below hb (S0.out.2.2.2.2.1)), (pw_cell_below hb (S0.out.2.2.2.2.2))⟩ (fun hHeld => ?_)
                clear ho hb hg hat
                clear hK K
                refine norm_ (a' := ?_) ?_ ?_
                rotate_left
                · show Act.put _ (some 114) _ = _
                  simp only [Act.put, List.setIfInBounds_toArray, List.set_cons_zero, List.set_cons_succ, i64_w, i32_w]
                  rfl
                exact norm_ (by simp only [putAll, Act.put, List.setIfInBounds_toArray, List.set_cons_zero, List.set_cons_succ]) (hCont (v5, v7, v10) _ ⟨hHeld, R7.out, R10.out, BW.out⟩)
            · skip
              refine Kd.R_lit_step k56 (w0 := w95) w95.heap.size 56 ?hg (N := 117) ?hd (xs := [(⟨1, k1, d1⟩ : S56), (⟨1, k0, d0⟩ : S56)]) (inner := [.int .i64 1, .int .i64 k1, .int .i64 d1, .int .i64 1, .int .i64 k0, .int .i64 d0]) (ok := fun _ => True) (okp := fun _ => False) ?hr ?hp (fun _ hk => hk.elim) trivial BW.out (below_size BW.out) (by simp) ?_; (case hd => rfl); (case hg => rfl); (case hr => first | (go_simp; done) | (go_simp; rfl)); (case hp => exact (Reps.c3 (show Kd.M k56 _ _ _ (⟨1, k1, d1⟩ : S56) [.int .i64 1, .int .i64 k1, .int .i64 d1] from (k56_mkM _ _ _ (⟨1, k1, d1⟩ : S56))) (Reps.c3 (show Kd.M k56 _ _ _ (⟨1, k0, d0⟩ : S56) [.int .i64 1, .int .i64 k0, .int .i64 d0] from (k56_mkM _ _ _ (⟨1, k0, d0⟩ : S56))) (Reps.none _ _))))
              intro v10 w10 ho hb hg hn
              have R10 := Aside0.mk ho
              have BW := Aside0.mk hb
              refine hK.out _ _ ⟨(pw_cell_below (lit_below hg) hHeld.1), (pw_cell_below (lit_below hg) hHeld.2.1), (pw_cell_below (lit_below hg) hHeld.2.2.1), (pw_cell_below (lit_below hg) hHeld.2.2.2.1), (pw_cell_below (lit_below hg) hHeld.2.2.2.2.1), (pw_cell_below (lit_below hg) hHeld.2.2.2.2.2)⟩ (fun hHeld => ?_)
              clear ho hb hg hn
              clear hK K
              refine norm_ (a' := ?_) ?_ ?_
              rotate_left
              · show Act.put _ (some 117) _ = _
                simp only [Act.put, List.setIfInBounds_toArray, List.set_cons_zero, List.set_cons_succ, i64_w, i32_w]
                rfl
              refine one_ (i := 0) (N := some 112) #[true, true, false, true, true, true, false, false] rfl rfl (one_of HT_.out (by kernel_rfl)) (by decide) (fun K hK => ?_)
              refine Kd.R_lit_step k56 (w0 := w95) w95.heap.size 56 ?hg (N := 112) ?hd (xs := ([] : List S56)) (inner := []) (ok := fun _ => True) (okp := fun _ => False) ?hr ?hp (fun _ _ => trivial) trivial BW.out (below_size BW.out) (by simp) ?_; (case hd => rfl); (case hg => rfl); (case hr => first | (go_simp; done) | (go_simp; rfl)); (case hp => exact (Reps.none _ _))
              intro v5 w5 ho hb hg hn
              have R5 := Aside0.mk ho
              have R10 := Aside0.mk (keep_110 R10.out hg hn)
              have BW := Aside0.mk hb
              refine hK.out _ _ ⟨(pw_cell_below (lit_below hg) hHeld.1), (pw_cell_below (lit_below hg) hHeld.2.1), (pw_cell_below (lit_below hg) hHeld.2.2.1), (pw_cell_below (lit_below hg) hHeld.2.2.2.1), (pw_cell_below (lit_below hg) hHeld.2.2.2.2.1), (pw_cell_below (lit_below hg) hHeld.2.2.2.2.2)⟩ (fun hHeld => ?_)
              clear ho hb hg hn
              clear hK K
              refine norm_ (a' := ?_) ?_ ?_
              rotate_left
              · show Act.put _ (some 112) _ = _
                simp only [Act.put, List.setIfInBounds_toArray, List.set_cons_zero, List.set_cons_succ, i64_w, i32_w]
                rfl
              refine one_ (i := 2) (N := some 114) #[true, true, true, true, true, true, false, false] rfl rfl (one_of HT_.out (by kernel_rfl)) (by decide) (fun K hK => ?_)
              refine Kd.R_append_rows_step k56 (w0 := w95) w95.heap.size (by rfl) (.tmp 112) (.tmp 113) 35 56 (.agg #[(.int .i64 0), (.int .i64 0), (.int .i64 0)]) 24 rfl Try.underlying35 info56 rfl (by decide) (by omega) v5 [] es _ _ _ (fun _ => True) (fun _ => False) rfl rfl R5.out (Kd.C_below CE.out BW.out) (fun x cs h => h) (fun _ h => h.elim) (fun _ _ => trivial) BW.out (below_size BW.out) (by have := HLEN.out; simp; omega) ?_
              intro v7 w7 ho hb hg hat
              have R7 := Aside0.mk ho
              have R10 := Aside0.mk (carry_110 R10.out hg)
              have BW := Aside0.mk hb
              refine hK.out _ _ ⟨(pw_cell_below hb (S0.out.1)), (pw_cell_below hb (S0.out.2.1)), (pw_cell_below hb (S0.out.2.2.1)), (pw_cell_below hb (S0.out.2.2.2.1)), (pw_cell_below hb (S0.out.2.2.2.2.1)), (pw_cell_below hb (S0.out.2.2.2.2.2))⟩ (fun hHeld => ?_)
              clear ho hb hg hat
              clear hK K
              refine norm_ (a' := ?_) ?_ ?_
              rotate_left
              · show Act.put _ (some 114) _ = _
                simp only [Act.put, List.setIfInBounds_toArray, List.set_cons_zero, List.set_cons_succ, i64_w, i32_w]
                rfl
              exact norm_ (by simp only [putAll, Act.put, List.setIfInBounds_toArray, List.set_cons_zero, List.set_cons_succ]) (hCont (v5, v7, v10) _ ⟨hHeld, R7.out, R10.out, BW.out⟩)
          rintro ⟨v5, v7, v10⟩ w11 ⟨hS, h7, h10, hbw⟩
          obtain ⟨A10, c10, rfl⟩ := Kd.R_slice h10
          have R7 := Aside0.mk h7
          have R10 := Aside0.mk (Kd.R_reads' h10)
          have BW := Aside0.mk hbw
          clear h7 h10 hbw hHeld
          refine norm_ (a' := ?_) ?_ ?_
          rotate_left
          · simp only [putAll, Act.put, List.setIfInBounds_toArray, List.set_cons_zero, List.set_cons_succ]
            rfl
          refine one_ (i := 6) (N := some 118) #[true, true, true, true, true, true, true, false] rfl rfl (one_of HT_.out (by kernel_rfl)) (by decide) (fun K hK => ?_)
          refine Kd.R_append_rows_step k56 (w0 := w95) w95.heap.size (by rfl) (.tmp 114) (.tmp 117) 35 56 (.agg #[(.int .i64 0), (.int .i64 0), (.int .i64 0)]) 24 rfl Try.underlying35 info56 rfl (by decide) (by omega) v7 es [(⟨1, k1, d1⟩ : S56), (⟨1, k0, d0⟩ : S56)] _ _ _ (fun _ => True) (fun _ => False) rfl rfl R7.out R10.out.2.2 (fun x cs h => h) (fun _ h => h.elim) (fun _ _ => trivial) BW.out (below_size BW.out) (by have := HLEN.out; simp; omega) ?_
          intro v16 w12 ho hb hg hat
          have Rv16 := Aside0.mk ho
          have BW := Aside0.mk hb
          refine hK.out _ _ ⟨(pw_cell_below hb (S1.out.1)), (pw_cell_below hb (S1.out.2.1)), (pw_cell_below hb (S1.out.2.2.1)), (pw_cell_below hb (S1.out.2.2.2.1)), (pw_cell_below hb (S1.out.2.2.2.2.1)), (pw_cell_below hb (S1.out.2.2.2.2.2))⟩ (fun hHeld => ?_)
          clear ho hb hg hat
          clear hK K
          refine norm_ (a' := ?_) ?_ ?_
          rotate_left
          · show Act.put _ (some 118) _ = _
            simp only [Act.put, List.setIfInBounds_toArray, List.set_cons_zero, List.set_cons_succ, i64_w, i32_w]
            rfl
          refine pure_ (i := 7) (N := some 16) (v := ?_) (a' := ?_) #[true, true, true, true, true, true, true, true] rfl rfl (any_of HT_.out (by kernel_rfl)) (fun _ _ _ h => h) (Or.inl ⟨by rfl, ?_⟩) ?_ ?_
          rotate_left
          · intro w'
            go_simp
            with_reducible rfl
          rotate_left
          · simp only [Act.put, List.setIfInBounds_toArray, List.set_cons_zero, List.set_cons_succ, i64_w, i32_w]
            rfl
          refine done_ (done_of HT_.out (by kernel_rfl)) ?_
          have KA := Aside0.mk (blk_below KA.out BW.out)
          have KB := Aside0.mk (blk_below KB.out BW.out)
          have HB := Aside0.mk (below_step HB.out BW.out)
          have Rv15 := Aside0.mk (Kd.R_below Rv15.out BW.out)
          clear S1 CE BW R7 R10 hHeld
          obtain ⟨A16, c16, rfl⟩ := Kd.R_slice Rv16.out
          obtain ⟨e2, he2⟩ : ∃ e2, e2 = es ++ [(⟨1, k1, d1⟩ : S56), ⟨1, k0, d0⟩] := ⟨_, rfl⟩
          rw [← he2] at Rv16 ⊢
          obtain ⟨kl0, kl1⟩ := box2 (w := w12) (blk_below KL.out HB.out)
          have HLE := Aside0.mk (show e1.length = es.length + 2 ∧ e2.length = es.length + 2 from ⟨by rw [he1]; simp, by rw [he2]; simp⟩)
          have HR1 := Aside0.mk (show (run n l e1).length = e1.length by rw [run, if_pos ⟨HL.out, by have := HLEN.out; have := HLE.out.1; omega⟩, runTo_length])
          have HR2 := Aside0.mk (show (run n l e2).length = e2.length by rw [run, if_pos ⟨HL.out, by have := HLEN.out; have := HLE.out.2; omega⟩, runTo_length])
          have E12 := Aside0.mk (And.intro he1 he2)
          clear he1 he2
          go_upto_region 20 with (go_at_call 29; refine (run_is n _ _ l _ _ e1 _ (Kd.C_below (Kd.R_reads' RL.out).2.2 HB.out) (Kd.R_reads' RL.out).2.1 (Kd.R_reads' Rv15.out).2.2 (Kd.R_reads' Rv15.out).2.1).mono ?_; rintro e w17 ⟨v17, rfl, hs, hb⟩; obtain ⟨A17, c17, rfl⟩ := Kd.S_slice hs; have S17 := Aside0.mk hs; have Rv15 := Aside0.mk (Kd.R_below Rv15.out hb); have Rv16 := Aside0.mk (Kd.R_below Rv16.out hb); have HB := Aside0.mk (below_step HB.out hb); clear hs hb kl0 kl1)
          obtain ⟨kl0, kl1⟩ := box2 (w := w17) (blk_below KL.out HB.out)
          go_upto_region 21 with (go_at_call 29; refine (run_is n _ _ l _ _ e2 _ (Kd.C_below (Kd.R_reads' RL.out).2.2 HB.out) (Kd.R_reads' RL.out).2.1 (Kd.R_reads' Rv16.out).2.2 (Kd.R_reads' Rv16.out).2.1).mono ?_; rintro e w18 ⟨v18, rfl, hs, hb⟩; obtain ⟨A18, c18, rfl⟩ := Kd.S_slice hs; have S18 := Aside0.mk hs; have Rv15 := Aside0.mk (Kd.R_below Rv15.out hb); have Rv16 := Aside0.mk (Kd.R_below Rv16.out hb); have S17 := Aside0.mk (Kd.S_below S17.out hb); have HB := Aside0.mk (below_step HB.out hb); clear hs hb kl0 kl1)
          obtain ⟨kl0, kl1⟩ := box2 (w := w18) (blk_below KL.out HB.out)
          have g1 : (((run n l e1).length : Int) != (e1.length : Int)) = false := by rw [HR1.out]; simp
          have g2 : (((run n l e2).length : Int) != (e1.length : Int)) = false := by rw [HR2.out, HLE.out.1, HLE.out.2]; simp
          obtain ⟨q1, hq1⟩ : ∃ q1, q1 = run n l e1 := ⟨_, rfl⟩
          obtain ⟨q2, hq2⟩ : ∃ q2, q2 = run n l e2 := ⟨_, rfl⟩
          have HRS := Aside0.mk (run_small n l e1)
          have HRS2 := Aside0.mk (run_small n l e2)
          rw [← hq1] at g1 HR1 HRS S17 ⊢
          rw [← hq2] at g2 HR2 HRS2 S18 ⊢
          have HQ1 := Aside0.mk hq1
          have HQ2 := Aside0.mk hq2
          clear hq1 hq2
          go_upto_region 24 with (first | (go_at_call 28; refine (srun_is n _ _ l _ _ e1 _ (Kd.C_below (Kd.R_reads' RL.out).2.2 HB.out) (Kd.R_reads' RL.out).2.1 (Kd.R_reads' Rv15.out).2.2 (Kd.R_reads' Rv15.out).2.1).mono ?_; rintro e w19 ⟨v19, rfl, hs, hb⟩; rw [← HQ1.out] at hs; obtain ⟨A19, c19, rfl⟩ := Kd.S_slice hs; have S19 := Aside0.mk hs; have Rv15 := Aside0.mk (Kd.R_below Rv15.out hb); have Rv16 := Aside0.mk (Kd.R_below Rv16.out hb); have S17 := Aside0.mk (Kd.S_below S17.out hb); have S18 := Aside0.mk (Kd.S_below S18.out hb); have HB := Aside0.mk (below_step HB.out hb); clear hs hb kl0 kl1) | (go_at_call 30; refine (wDone_is HRS.out.1 HRS.out.2 (Kd.S_reads' S17.out).2.2 (Kd.S_reads' S17.out).2.1 (Kd.S_reads' S19.out).2.2 (Kd.S_reads' S19.out).2.1).mono ?_; rintro e w20 ⟨rfl, hb⟩; have S17 := Aside0.mk (Kd.S_below S17.out hb); have S18 := Aside0.mk (Kd.S_below S18.out hb); have HB := Aside0.mk (below_step HB.out hb); clear hb))
          clear g1 g2
          obtain ⟨m1, hm1⟩ : ∃ m1 : Nat, m1 = es.length + 1 := ⟨_, rfl⟩
          have hwm : wrap64 ((e1.length : Int) - 1) = (m1 : Int) := (wrap_id (by have := HLE.out.1; omega) (by have := HLE.out.1; have := HLEN.out; omega)).trans (by have := HLE.out.1; omega)
          have hwm' : IntKind.i64.wrap ((e1.length : Int) - 1) = (m1 : Int) := (i64_w _).trans hwm
          have p0 : (0 : Int) ≤ (m1 : Int) := by omega
          have p1 : (m1 : Int) < (q1.length : Int) := by rw [HR1.out]; have := HLE.out.1; omega
          have p2 : (m1 : Int) < (q2.length : Int) := by rw [HR2.out]; have := HLE.out.2; omega
          have dq1 : decide ((m1 : Int) < (q1.length : Int)) = true := decide_eq_true p1
          have dq2 : decide ((m1 : Int) < (q2.length : Int)) = true := decide_eq_true p2
          have HM1 := Aside0.mk hm1
          clear hm1
          cases hc : commAt x y 2
          · have hsw : (rd_T48 q1 (m1 : Int)).f1 = (rd_T48 q2 (m1 : Int)).f1 := by
              rw [HQ1.out, HQ2.out, E12.out.1, E12.out.2, HM1.out]
              have hk := HK.out
              have hd := HD.out
              rw [HX.out, HY.out] at hc
              exact swap_runs es ⟨1, k0, d0⟩ ⟨1, k1, d1⟩ HL.out (by have := HLEN.out; omega) (ok12 HL.out (.inl rfl) hk.1.1 hk.1.2 hd.1) (ok12 HL.out (.inl rfl) hk.2.1 hk.2.2 hd.2) rfl rfl hc
            have hsz := HRS.out.2 (rd_T48 q1 (m1 : Int)) (by have hlt : m1 < q1.length := by omega
                                                             rw [show rd_T48 q1 (m1 : Int) = q1[m1] by simp [rd_T48, hlt]]; exact List.getElem_mem hlt)
            obtain ⟨ad17, A2, c2, A3, c3, e, -, x1, x2, x3, l2, g2, l3, g3⟩ := at_T48 (Kd.S_reads' S17.out).2.2 (m1 : Int) p0 p1
            cases e
            obtain ⟨ad18, Y2, o2, Y3, o3, e, -, y1, y2, y3, n2, f2, n3, f3⟩ := at_T48 (Kd.S_reads' S18.out).2.2 (m1 : Int) p0 p2
            cases e
            rw [Int.toNat_natCast] at x1 x2 x3 y1 y2 y3
            rw [← hsw] at y1 y2 y3 n2 f2 n3 f3
            generalize (rd_T48 q1 (m1 : Int)).f1 = sx at x1 x2 x3 l2 g2 l3 g3 y1 y2 y3 n2 f2 n3 f3 hsz
            obtain ⟨xb, ss, dd⟩ := sx
            dsimp only at x1 x2 x3 l2 g2 l3 g3 y1 y2 y3 n2 f2 n3 f3 hsz
            have WS := Aside0.mk (fun (b0 : Nat) (w' : World) (h : Below w20.heap.size w20 w') => wState_is (b := xb) hsz.1 hsz.2 (Kd.C_below g2 h) l2 (Kd.C_below g3 h) l3 (Kd.C_below f2 h) n2 (Kd.C_below f3 h) n3)
            clear l2 g2 l3 g3 n2 f2 n3 f3 hsz hsw
            go_upto_region 24 with fail
            replace x1 := pw_cell_below (below_drew1 (Below.refl w20.heap.size w20)) x1
            replace x2 := pw_cell_below (below_drew1 (Below.refl w20.heap.size w20)) x2
            replace x3 := pw_cell_below (below_drew1 (Below.refl w20.heap.size w20)) x3
            replace y1 := pw_cell_below (below_drew1 (Below.refl w20.heap.size w20)) y1
            replace y2 := pw_cell_below (below_drew1 (Below.refl w20.heap.size w20)) y2
            replace y3 := pw_cell_below (below_drew1 (Below.refl w20.heap.size w20)) y3
            refine startK 17 (S := fun w' => w'.cell? ⟨(ad17.add (m1 * 4)).block, (ad17.add (m1 * 4)).off + 1, none⟩ = some (.bool xb) ∧ w'.cell? ⟨(ad17.add (m1 * 4)).block, (ad17.add (m1 * 4)).off + 2, none⟩ = some (.slice A2 ss.length c2) ∧ w'.cell? ⟨(ad17.add (m1 * 4)).block, (ad17.add (m1 * 4)).off + 3, none⟩ = some (.slice A3 dd.length c3) ∧ w'.cell? ⟨(ad18.add (m1 * 4)).block, (ad18.add (m1 * 4)).off + 1, none⟩ = some (.bool xb) ∧ w'.cell? ⟨(ad18.add (m1 * 4)).block, (ad18.add (m1 * 4)).off + 2, none⟩ = some (.slice Y2 ss.length o2) ∧ w'.cell? ⟨(ad18.add (m1 * 4)).block, (ad18.add (m1 * 4)).off + 3, none⟩ = some (.slice Y3 dd.length o3)) (ds := []) (by kernel_rfl) rfl ⟨x1, x2, x3, y1, y2, y3⟩ (fun hHeld => ?_)
            refine with_tabW sw_tab24 sw_bits24 (fun HT_ HW_ => ?_)
            repeat (first
              | (refine take0 (v := ?_) (a' := ?_) (by simp only [Nat.reduceAdd]; rfl) (by rfl) HT_.out HW_.out (by kernel_rfl) (by exact fun _ _ _ h => h) hHeld ?_ ?_ ?_; rotate_left 2; (· rintro w' ⟨s0, s1, s2, s3, s4, s5⟩; go_simp; with_reducible rfl); (· simp only [Act.put, List.setIfInBounds_toArray, List.set_cons_zero, List.set_cons_succ, i64_w, i32_w]; rfl))
              | (refine takeG (v := ?_) (a' := ?_) (by simp only [Nat.reduceAdd]; rfl) (by rfl) (by rfl) HT_.out HW_.out (by kernel_rfl) (by exact fun _ _ _ h => h) hHeld ?_ ?_ ?_; rotate_left 2; (· first | (rw [if_neg (by decide)]; done) | (rw [if_pos (by decide)]; rintro w' ⟨s0, s1, s2, s3, s4, s5⟩; go_simp; with_reducible rfl)); (· simp only [Act.put, List.setIfInBounds_toArray, List.set_cons_zero, List.set_cons_succ, i64_w, i32_w]; rfl))
              | (refine oneK (by simp only [Nat.reduceAdd]; rfl) (by rfl) HT_.out (by kernel_rfl) (by decide) (fun K hK => ?_); refine goes_ Try.func33 (by kernel_rfl) rfl #[.agg #[.bool xb, .slice A2 ss.length c2, .slice A3 dd.length c3], .agg #[.bool xb, .slice Y2 ss.length o2, .slice Y3 dd.length o3]] (by rfl) rfl rfl (by (try simp only [List.map_toArray, List.map_cons, List.map_nil]); first | done | rfl | (simp only [List.length_drop, List.length_take]; rfl)) ?_; ((with_reducible refine (WS.out 0 _ (by repeat (first | exact Below.refl _ _ | apply pw_below_drewN | apply below_drew1))).mono ?_); rintro e w' ⟨rfl, hb⟩); refine ⟨_, rfl, ?_⟩; have HB := Aside0.mk (below_step (below_drew1 HB.out) hb); refine hK.out _ _ ⟨pw_cell_below hb hHeld.1, pw_cell_below hb hHeld.2.1, pw_cell_below hb hHeld.2.2.1, pw_cell_below hb hHeld.2.2.2.1, pw_cell_below hb hHeld.2.2.2.2.1, pw_cell_below hb hHeld.2.2.2.2.2⟩ (fun hHeld => ?_); clear hK K; refine norm_ (a' := ?_) ?_ ?_; rotate_left; · simp only [Act.put, List.setIfInBounds_toArray, List.set_cons_zero, List.set_cons_succ, i64_w, i32_w]; rfl))
            refine done_ (done_of HT_.out (by kernel_rfl)) ?_
            go_wp2_with fail
            go_ret
            exact ⟨rfl, below_step B1.out HB.out⟩
          · go_upto_region 24 with fail
            refine startK 17 (S := fun w' => w'.cell? ⟨gl, 0, none⟩ = some (.int .i64 n)) (ds := []) (by kernel_rfl) rfl (box2 (blk_below KL.out (below_drew1 HB.out))).1 (fun hHeld => ?_)
            refine with_tabW sw_tab24 sw_bits24 (fun HT_ HW_ => ?_)
            repeat (first
              | (refine take0 (v := ?_) (a' := ?_) (by simp only [Nat.reduceAdd]; rfl) (by rfl) HT_.out HW_.out (by kernel_rfl) (by exact fun _ _ _ h => h) hHeld ?_ ?_ ?_; rotate_left 2; (· intro w' s0; go_simp; with_reducible rfl); (· simp only [Act.put, List.setIfInBounds_toArray, List.set_cons_zero, List.set_cons_succ, i64_w, i32_w]; rfl))
              | (refine takeG (v := ?_) (a' := ?_) (by simp only [Nat.reduceAdd]; rfl) (by rfl) (by rfl) HT_.out HW_.out (by kernel_rfl) (by exact fun _ _ _ h => h) hHeld ?_ ?_ ?_; rotate_left 2; (· first | (rw [if_neg (by decide)]; done) | (rw [if_pos (by decide)]; intro w' s0; go_simp; with_reducible rfl)); (· simp only [Act.put, List.setIfInBounds_toArray, List.set_cons_zero, List.set_cons_succ, i64_w, i32_w]; rfl)))
            refine done_ (done_of HT_.out (by kernel_rfl)) ?_
            go_wp2_with fail
            go_ret
            exact ⟨rfl, below_step B1.out (below_drew1 HB.out)⟩
end Go.Proofs.Ytpdnabhpkdchjaa.WalkFnSwap
namespace Go.Proofs.Ytpdnabhpkdchjaa.fnSwap
open Go.ChangeShapes Go.WideShapes Go.ChangeAt Go.RowKit Go.Proofs.Ytpdnabhpkdchjaa.Open Go.Proofs.Ytpdnabhpkdchjaa.P
set_option linter.unusedVariables false
set_option maxRecDepth 100000 in
theorem lifted (os : Os) (started : os.Started) (H : Type) (enc : TypeId × Value → H) :
    ReturnsInHanded {} Try.checked os 15 .any (Rows.fnSwapSpec.pre6 enc Try.prog Try.f15 Rows.fnSwapRow.domain false) (Rows.fnSwapSpec.post enc Try.prog Try.f15 false true false false) := by
  refine returnsInHanded_of_change_sized (C := Try.checked) Facts.own started (by kernel_rfl) Try.func15
    (ChangeSpec.witness6 (enc := enc) (C := Try.checked) false ⟨#[], #[.slice none 0 0, .slice none 0 0], []⟩ 8 (by kernel_rfl) (by kernel_rfl) (by kernel_rfl) (by kernel_rfl)) ?_
  intro W base args ds gs before hval0 hW hcnd hsz0 _
  have hval : ∀ (j : Nat) t v, Try.f15.params[j]? = some t → args[j]? = some v → Value.okWide Try.prog W .any base t v := hval0
  have hW' := hW
  obtain ⟨p, q, hA0, hV, rfl, hfz, hnd⟩ := hW
  have hA : DataW.TrodAll enc Try.prog W 0 (fun _ => true) true Try.f15.params.toList args.toList ds p := hA0
  rw [Try.params15] at hA hval
  obtain ⟨v0, vs0, d0, ds0, p0, q0, hargs, rfl, rfl, h0, r0⟩ := trodAll_cons hA
  obtain ⟨v1, vs1, d1, ds1, p1, q1, rfl, rfl, rfl, h1, r1⟩ := trodAll_cons r0
  obtain ⟨rfl, rfl, rfl⟩ := trodAll_nil r1
  obtain rfl : args = #[v0, v1] := by cases args; simp_all
  obtain ⟨rfl, rfl⟩ := trodVars_none hV
  have k0 := h0
  have lt0 : ∀ x ∈ p0, x.block < W.heap.size := by obtain ⟨m, hm⟩ := k0; exact DataW.trod_lt m _ _ _ hm
  obtain ⟨A0, c0, l0, rfl, hr0, hc0, hb0⟩ := arg_bytes (hval 0 34 v0 rfl rfl) h0
  have k1 := h1
  have lt1 : ∀ x ∈ p1, x.block < W.heap.size := by obtain ⟨m, hm⟩ := k1; exact DataW.trod_lt m _ _ _ hm
  obtain ⟨A1, c1, l1, rfl, hr1, hc1, hb1⟩ := arg_bytes (hval 1 34 v1 rfl rfl) h1
  clear hA0 hval0 hsz0
  refine (WalkFnSwap.walk A0 c0 l0 A1 c1 l1 W hr0 hc0 hb0 hr1 hc1 hb1).mono fun e W' ⟨he, bel⟩ => ?_
  subst he
  exact ⟨_, rfl, _, _, _, [], _, [], hW', trodAll_mk1 (shut_bool Try.underlying4 _), (trodAll_cons_mk (Below.trod Facts.laidOut (by kernel_rfl) (of_decide_eq_true (by kernel_rfl)) k0 bel lt0) (trodAll_cons_mk (Below.trod Facts.laidOut (by kernel_rfl) (of_decide_eq_true (by kernel_rfl)) k1 bel lt1) trodAll_mk0)), rfl, bel.frame _, fun h => by cases h⟩
theorem k10 : (Rows.fnSwapRow.inPlace == Try.prog.inPlace 15) = true := by kernel_rfl
theorem k11 : (Rows.fnSwapRow.unfollowed == Try.prog.unfollowed 15) = true := by kernel_rfl
theorem k12 : (Rows.fnSwapRow.recurses == Try.prog.recurses 15) = true := by kernel_rfl
theorem k13 : (Rows.fnSwapRow.named == Try.prog.varsNamed 15) = true := by kernel_rfl
theorem over : Rows.fnSwapRow.holds Try.pinned (OpenSpec.ofChange Rows.fnSwapSpec) :=
  OpenClaim.holds_of_wide 15 Try.f15 rfl rfl rfl rfl rfl rfl rfl ⟨rfl, rfl, rfl, rfl, rfl⟩ rfl rfl rfl rfl rfl (by kernel_rfl) Try.func15
    (joined_of 15 Try.f15 Rows.fnSwapSpec Rows.fnSwapRow (by kernel_rfl) (by kernel_rfl) (by kernel_rfl) rfl rfl Facts.stopKnobs k10 k11 k12 k13 (by kernel_rfl) (by kernel_rfl) (by kernel_rfl) (by kernel_rfl) (by kernel_rfl) (by kernel_rfl) (by kernel_rfl) (by kernel_rfl) (by kernel_rfl) rfl rfl rfl rfl rfl rfl (by kernel_rfl) (by kernel_rfl) (by kernel_rfl))
    (of_decide_eq_true (by kernel_rfl)) (by unfold Func.isWrapper; rw [if_neg (by decide +kernel)]; exact ⟨rfl, rfl⟩)
    (fun os started H enc _ => lifted os started H enc)
theorem proved : Rows.FnSwapSaid := over
end Go.Proofs.Ytpdnabhpkdchjaa.fnSwap
namespace Go.Proofs.Ytpdnabhpkdchjaa
theorem fnSwap_holds : Rows.FnSwapSaid := fnSwap.proved
#print axioms fnSwap_holds
end Go.Proofs.Ytpdnabhpkdchjaa
