/- The statement FnSafe holds of the given program, for every argument; there are no conditions. (Part 6 of 6.) -/
import Derived.Test.YtpdnabhpkdchjaaBFnSafe5
import Derived.ShutString
namespace Go.Proofs.Ytpdnabhpkdchjaa.P
open Go.RowKit Go.Proofs.YtpdnabhpkdchjaaW.PrintWords Go.Proofs.YtpdnabhpkdchjaaW.PrintLast Go.Proofs.YtpdnabhpkdchjaaW.PrintMore
attribute [local go_sem ↓] Go.wp_at_zero Go.wp_at_succ
set_option linter.unusedVariables false
set_option linter.unusedSimpArgs false
set_option maxHeartbeats 8000000 in
set_option maxRecDepth 100000 in
theorem run_is (n : Int) (A : Option Addr) (c : Nat) (l : List S88) (A1 : Option Addr) (c1 : Nat) (es : List S56) (w : World) (hr : Kd.C k88 w A l.length l) (hc : l.length ≤ c) (hr1 : Kd.C k56 w A1 es.length es) (hc1 : es.length ≤ c1) :
    Calls Try.prog 29 #[.agg #[.int .i64 n, .slice A l.length c], .slice A1 es.length c1] w fun e w' => ∃ v0_ : Value, e = .returned (v0_) ∧ Kd.S k48 48 w' w.heap.size (fun _ => True) v0_ (run n l es) ∧ Below w.heap.size w w' := by
  have HR := Aside0.mk hr
  have HC := Aside0.mk hc
  have HR1 := Aside0.mk hr1
  have HC1 := Aside0.mk hc1
  clear hr hc hr1 hc1
  by_cases hl : layoutOk n l = 0
  · by_cases he : es.length ≤ 2000
    · skip
      have b0 : (layoutOk n l != 0) = false := bne_eq_false_iff_eq.mpr hl
      have b1 : decide ((es.length : Int) > 2000) = false := decide_eq_false (by omega)
      have HL := Aside0.mk hl
      have HE := Aside0.mk he
      have HN := Aside0.mk (lay_n hl)
      clear hl he
      go_enter Try.func29, Try.ntmps29
      go_upto_region 5 with (first | ((with_reducible refine gate_dst (N := 2) rfl ?_); refine box_event ?hg (N := 2) ?hd (cs := #[.int .i64 n, .slice A l.length c]) (t := 30) ?hr ?_; (case hd => rfl); (case hg => rfl); (case hr => first | (go_simp; done) | (go_simp; rfl)); intro gl el wl kl bl; have hcz0 := (blk_cell kl 0).trans (show _ = some (Value.int .i64 n) from rfl); have hcz1 := (blk_cell kl 1).trans (show _ = some (Value.slice A l.length c) from rfl); have KL := Aside0.mk kl; have BL := Aside0.mk bl; have GL := Aside0.mk (show w.heap.size ≤ gl by rw [el]; exact Nat.le_refl _); clear kl bl el) | (go_at_call 25; refine (lay_is (Kd.C_below HR.out BL.out) HC.out).mono ?_; rintro e w1 ⟨rfl, hb⟩; have KL := Aside0.mk (blk_below KL.out hb); have BL := Aside0.mk (below_step BL.out hb); clear hb; have hcy0 := (blk_cell KL.out 0).trans (show _ = some (Value.int .i64 n) from rfl); have hcy1 := (blk_cell KL.out 1).trans (show _ = some (Value.slice A l.length c) from rfl)) | (go_at_call 44; refine (begin_is (Kd.C_below HR.out BL.out) HC.out HL.out).mono ?_; rintro e w2 ⟨v1, v2, rfl, r1, r2, hb⟩; obtain ⟨a1, d1, rfl⟩ := Kd.R_slice r1; obtain ⟨a2, d2, rfl⟩ := Kd.R_slice r2; have R1 := Aside0.mk (Kd.R_lower r1 BL.out.size); have R2 := Aside0.mk (Kd.R_lower r2 BL.out.size); have KL := Aside0.mk (blk_below KL.out hb); have BL := Aside0.mk (below_step BL.out hb); clear hb r1 r2) | ((with_reducible refine gate_dst (N := 6) rfl ?_); refine box_event ?hg (N := 6) ?hd (cs := #[.bool false, .slice none 0 0, .slice none 0 0]) (t := 46) ?hr ?_; (case hd => rfl); (case hg => rfl); (case hr => first | (go_simp; done) | (go_simp; rfl)); intro gs es_ ws ks bs; have KS := Aside0.mk ks; have ES := Aside0.mk es_; have BS := Aside0.mk bs; have zs0 := blk_frozen ks 0; have zs1 := blk_frozen ks 1; have zs2 := blk_frozen ks 2; have ks0 := (blk_cell ks 0).trans (show _ = some (Value.bool false) from rfl); have ks1 := (blk_cell ks 1).trans (show _ = some (Value.slice none 0 0) from rfl); have ks2 := (blk_cell ks 2).trans (show _ = some (Value.slice none 0 0) from rfl); clear ks es_ bs))
      clear hcz0 hcz1 hcy0 hcy1
      have BX := Aside0.mk (below_set (j := 2) (v := .slice a2 (st0 n l).f2.length d2) (below_set (j := 1) (v := .slice a1 (st0 n l).f1.length d1) (below_set (j := 0) (v := .bool true) BS.out (Nat.le_of_eq ES.out.symm)) (Nat.le_of_eq ES.out.symm)) (Nat.le_of_eq ES.out.symm))
      have KX := Aside0.mk (blk_put (blk_put (blk_put KS.out 0 (.bool true) rfl) 1 (.slice a1 (st0 n l).f1.length d1) rfl) 2 (.slice a2 (st0 n l).f2.length d2) rfl)
      have ST := Aside0.mk (show RnSt w (((ws.setCell ⟨gs, 0, none⟩ (.bool true)).setCell ⟨gs, 1, none⟩ (.slice a1 (st0 n l).f1.length d1)).setCell ⟨gs, 2, none⟩ (.slice a2 (st0 n l).f2.length d2)) gl gs [.int .i64 n, .slice A l.length c] [.bool true, .slice a1 (st0 n l).f1.length d1, .slice a2 (st0 n l).f2.length d2] (.slice a1 (st0 n l).f1.length d1) (.slice a2 (st0 n l).f2.length d2) (st0 n l) (.slice none 0 0) [] from ⟨blk_below KL.out BX.out, KX.out, Kd.V_below (Kd.R_V (Kd.R_tight rfl R1.out)) BX.out, Kd.V_below (Kd.R_V (Kd.R_tight rfl R2.out)) BX.out, Kd.S_nil _ _ _ _ _, below_step BL.out BX.out, GL.out, by rw [ES.out]; exact BL.out.size⟩)
      clear KL BL R1 R2 KS ES BS zs0 zs1 zs2 ks0 ks1 ks2 BX KX
      generalize (((ws.setCell ⟨gs, 0, none⟩ (.bool true)).setCell ⟨gs, 1, none⟩ (.slice a1 (st0 n l).f1.length d1)).setCell ⟨gs, 2, none⟩ (.slice a2 (st0 n l).f2.length d2)) = wa at ST ⊢
      go_wp2_with fail
      go_loopg [5, 22] es.length (fun kq vo v22 w' => ∃ j : Nat, v22 = .int .i64 j ∧ Aside0 (j + kq = es.length) ∧ ∃ u1 u2 : Value, Aside0 (RnSt w w' gl gs [.int .i64 n, .slice A l.length c] [.bool true, u1, u2] u1 u2 (stAt n l es j) vo (runTo n l es j)))
      case atStart => exact ⟨0, rfl, ⟨by omega⟩, _, _, ⟨by rw [stAt_zero]; exact ST.out⟩⟩
      case round =>
        clear ST
        obtain ⟨j, rfl, HJ, u1, u2, ST⟩ := hrel
        by_cases hlt : j < es.length
        · cases gk with
          | zero => exact absurd HJ.out (by omega)
          | succ gk =>
            have hlt' : decide ((j : Int) < (es.length : Int)) = true := decide_eq_true (by omega)
            have q0 : (0 : Int) ≤ (j : Int) := by omega
            have q1 : (j : Int) < (es.length : Int) := by omega
            obtain ⟨a1, d1, e1⟩ := Kd.V_slice ST.out.V1
            obtain ⟨a2, d2, e2⟩ := Kd.V_slice ST.out.V2
            subst e1 e2
            obtain ⟨ad, e, x0, x1, x2⟩ := at_T56 HR1.out (j : Int) q0 q1
            subst e
            replace x0 := pw_cell_below ST.out.hB x0
            replace x1 := pw_cell_below ST.out.hB x1
            replace x2 := pw_cell_below ST.out.hB x2
            rw [Int.toNat_natCast] at x0 x1 x2
            have HSU := Aside0.mk (stAt_succ n l es j hlt)
            have HRU := Aside0.mk (runTo_succ n l es j)
            have HLT := Aside0.mk (stAt_len n l es j)
            have HSO := Aside0.mk (stAt_ok HL.out es j)
            generalize hx : rd_T56 es (j : Int) = x at x0 x1 x2 HSU HRU
            clear hx
            generalize hst : stAt n l es j = s at ST HSU HRU HLT HSO ⊢
            clear hst
            go_upto_region 8 with ((with_reducible refine gate_dst (N := 8) rfl ?_); refine box_event ?hg (N := 8) ?hd (cs := #[.int .i64 0, .int .i64 0, .int .i64 0]) (t := 56) ?hr ?_; (case hd => rfl); (case hg => rfl); (case hr => first | (go_simp; done) | (go_simp; rfl)); intro ge ee we ke be; have KE := Aside0.mk ke; have EE := Aside0.mk ee; have BE := Aside0.mk be; have z0 := blk_frozen ke 0; have z1 := blk_frozen ke 1; have z2 := blk_frozen ke 2; have c0_ := (blk_cell ke 0).trans (show _ = some (Value.int .i64 0) from rfl); have c1_ := (blk_cell ke 1).trans (show _ = some (Value.int .i64 0) from rfl); have c2_ := (blk_cell ke 2).trans (show _ = some (Value.int .i64 0) from rfl); clear ke ee be)
            have KX := Aside0.mk (blk_put (blk_put (blk_put KE.out 0 (.int .i64 x.f0) rfl) 1 (.int .i64 x.f1) rfl) 2 (.int .i64 x.f2) rfl)
            have BX := Aside0.mk (below_set (j := 2) (v := .int .i64 x.f2) (below_set (j := 1) (v := .int .i64 x.f1) (below_set (j := 0) (v := .int .i64 x.f0) BE.out (Nat.le_of_eq EE.out.symm)) (Nat.le_of_eq EE.out.symm)) (Nat.le_of_eq EE.out.symm))
            clear KE BE EE z0 z1 z2 c0_ c1_ c2_ x0 x1 x2
            generalize (((we.setCell ⟨ge, 0, none⟩ (.int .i64 x.f0)).setCell ⟨ge, 1, none⟩ (.int .i64 x.f1)).setCell ⟨ge, 2, none⟩ (.int .i64 x.f2)) = w8 at KX BX ⊢
            go_cut [9] from 24 to 33 (fun v9 wx => ∃ (gd : Nat) (b2 b3 : Option Addr) (f2 f3 : Nat), v9 = .pointer (some ⟨gd, 0, none⟩) ∧ Aside0 (MdSt w wr wx gl gs gd [.int .i64 n, .slice A l.length c] [.bool true, .slice a1 s.f1.length d1, .slice a2 s.f2.length d2] [.int .i64 1, .bool true, (.slice b2 s.f1.length f2), (.slice b3 s.f2.length f3)] (.slice b2 s.f1.length f2) (.slice b3 s.f2.length f3) s.f1 s.f2 u5 (runTo n l es j) ∧ Below wr.heap.size wr wx ∧ wx.heap[ge]? = some (.cells #[.int .i64 x.f0, .int .i64 x.f1, .int .i64 x.f2] 56 (0, 0))))
            case first =>
              have f1 : impl_Section.f s.f1 = some s.f1 := by unfold impl_Section.f; rw [if_pos (by rw [HLT.out.1]; have := HN.out; omega)]
              have f2 : slices_Clone_bool_bool.f s.f2 = some s.f2 := by unfold slices_Clone_bool_bool.f; rw [if_pos (by rw [HLT.out.2.1]; have := HN.out; omega)]
              have F1 := Aside0.mk f1
              have F2 := Aside0.mk f2
              clear f1 f2
              have e1 : w8.cell? ⟨gs, 1, none⟩ = some (.slice a1 s.f1.length d1) := (blk_cell (blk_below ST.out.hs BX.out) 1).trans rfl
              have e2 : w8.cell? ⟨gs, 2, none⟩ = some (.slice a2 s.f2.length d2) := (blk_cell (blk_below ST.out.hs BX.out) 2).trans rfl
              have bx := Aside0.mk BX.out
              have ke := Aside0.mk KX.out
              have ksb := Aside0.mk (blk_below ST.out.hs BX.out)
              have KD : True := trivial
              have ng : True := trivial
              go_region_held3 (fun w' => w'.cell? ⟨gs, 1, none⟩ = some (.slice a1 s.f1.length d1) ∧ w'.cell? ⟨gs, 2, none⟩ = some (.slice a2 s.f2.length d2))
                (((with_reducible refine ⟨(blk_cell (cs := #[.bool true, (.slice a1 s.f1.length d1), (.slice a2 s.f2.length d2)]) (t := 46) ?_ 1).trans ?_, (blk_cell (cs := #[.bool true, (.slice a1 s.f1.length d1), (.slice a2 s.f2.length d2)]) (t := 46) ?_ 2).trans ?_⟩) <;> (first | with_reducible exact ksb.out | (with_reducible rfl) | (refine blk_below ksb.out ?_; (repeat (first | (with_reducible exact Below.refl _ _) | (with_reducible apply below_drew1) | (with_reducible apply below_alloc))); done) | (with_reducible refine blk_far ?_ (Ne.symm ng) _; with_reducible refine blk_far ?_ (Ne.symm ng) _; with_reducible refine blk_far ?_ (Ne.symm ng) _; with_reducible refine blk_far ?_ (Ne.symm ng) _; with_reducible exact ksb.out) | rfl)))
                (first | (go_at_call 94; refine (impl_Section.calls a1 d1 s.f1 s.f1 _ (Kd.V_reads' (Kd.V_below ST.out.V1 (by repeat (first | (with_reducible exact bx.out) | (with_reducible apply below_drew1) | (with_reducible apply below_alloc) | fail)))).2.2 (Kd.V_reads' ST.out.V1).2.1 F1.out).mono ?_; rintro e w' ⟨v1, rfl, ho1, hb⟩; obtain ⟨v1_a, v1_c, rfl⟩ := Kd.R_slice ho1; have HO1 := Aside0.mk (Kd.R_lower (base' := wr.heap.size) ho1 (show Below wr.heap.size wr _ from (by repeat (first | (with_reducible exact bx.out) | (with_reducible apply below_drew1) | (with_reducible apply below_alloc) | fail))).size); (first | (have HO2 := Aside0.mk (R_up HO2.out (by first | with_reducible exact hb | exact below_step (by repeat (first | (with_reducible exact Below.refl _ _) | (with_reducible apply below_drew1) | (with_reducible apply below_alloc) | fail)) hb | fail))) | skip); (first | (have KD := Aside0.mk (blk_below KD.out hb)) | (have KD := Aside0.mk (by with_reducible exact alloc_blk hb); have GD := Aside0.mk bx.out.size) | (have KD := Aside0.mk (by with_reducible exact alloc_blk_drew hb); have GD := Aside0.mk bx.out.size) | skip); (try (have zd0 := blk_frozen KD.out 0; have zd1 := blk_frozen KD.out 1; have zd2 := blk_frozen KD.out 2; have zd3 := blk_frozen KD.out 3; have kd0 := (blk_cell KD.out 0).trans (show _ = some (Value.int .i64 0) from rfl); have kd1 := (blk_cell KD.out 1).trans (show _ = some (Value.bool false) from rfl); have kd2 := (blk_cell KD.out 2).trans (show _ = some (Value.slice none 0 0) from rfl); have kd3 := (blk_cell KD.out 3).trans (show _ = some (Value.slice none 0 0) from rfl))); have ke := Aside0.mk (blk_below ke.out (by first | with_reducible exact hb | exact below_step (by repeat (first | (with_reducible exact Below.refl _ _) | (with_reducible apply below_drew1) | (with_reducible apply below_alloc) | fail)) hb | fail)); have ksb := Aside0.mk (blk_below ksb.out (by first | with_reducible exact hb | exact below_step (by repeat (first | (with_reducible exact Below.refl _ _) | (with_reducible apply below_drew1) | (with_reducible apply below_alloc) | fail)) hb | fail)); (try (have ng := blk_ne KD.out ksb.out (by decide))); have bx := Aside0.mk (below_step bx.out (by first | with_reducible exact hb | exact below_step (by repeat (first | (with_reducible exact Below.refl _ _) | (with_reducible apply below_drew1) | (with_reducible apply below_alloc) | fail)) hb | fail)); clear hb ho1) | (go_at_call 95; refine (slices_Clone_bool_bool.calls a2 d2 s.f2 s.f2 _ (Kd.V_reads' (Kd.V_below ST.out.V2 (by repeat (first | (with_reducible exact bx.out) | (with_reducible apply below_drew1) | (with_reducible apply below_alloc) | fail)))).2.2 (Kd.V_reads' ST.out.V2).2.1 F2.out).mono ?_; rintro e w' ⟨v2, rfl, ho2, hb⟩; obtain ⟨v2_a, v2_c, rfl⟩ := Kd.R_slice ho2; have HO2 := Aside0.mk (Kd.R_lower (base' := wr.heap.size) ho2 (show Below wr.heap.size wr _ from (by repeat (first | (with_reducible exact bx.out) | (with_reducible apply below_drew1) | (with_reducible apply below_alloc) | fail))).size); (first | (have HO1 := Aside0.mk (R_up HO1.out (by first | with_reducible exact hb | exact below_step (by repeat (first | (with_reducible exact Below.refl _ _) | (with_reducible apply below_drew1) | (with_reducible apply below_alloc) | fail)) hb | fail))) | skip); (first | (have KD := Aside0.mk (blk_below KD.out hb)) | (have KD := Aside0.mk (by with_reducible exact alloc_blk hb); have GD := Aside0.mk bx.out.size) | (have KD := Aside0.mk (by with_reducible exact alloc_blk_drew hb); have GD := Aside0.mk bx.out.size) | skip); (try (have zd0 := blk_frozen KD.out 0; have zd1 := blk_frozen KD.out 1; have zd2 := blk_frozen KD.out 2; have zd3 := blk_frozen KD.out 3; have kd0 := (blk_cell KD.out 0).trans (show _ = some (Value.int .i64 0) from rfl); have kd1 := (blk_cell KD.out 1).trans (show _ = some (Value.bool false) from rfl); have kd2 := (blk_cell KD.out 2).trans (show _ = some (Value.slice none 0 0) from rfl); have kd3 := (blk_cell KD.out 3).trans (show _ = some (Value.slice none 0 0) from rfl))); have ke := Aside0.mk (blk_below ke.out (by first | with_reducible exact hb | exact below_step (by repeat (first | (with_reducible exact Below.refl _ _) | (with_reducible apply below_drew1) | (with_reducible apply below_alloc) | fail)) hb | fail)); have ksb := Aside0.mk (blk_below ksb.out (by first | with_reducible exact hb | exact below_step (by repeat (first | (with_reducible exact Below.refl _ _) | (with_reducible apply below_drew1) | (with_reducible apply below_alloc) | fail)) hb | fail)); (try (have ng := blk_ne KD.out ksb.out (by decide))); have bx := Aside0.mk (below_step bx.out (by first | with_reducible exact hb | exact below_step (by repeat (first | (with_reducible exact Below.refl _ _) | (with_reducible apply below_drew1) | (with_reducible apply below_alloc) | fail)) hb | fail)); clear hb ho2))
              all_goals (go_wp2_with fail; go_meet)
              all_goals first | exact ⟨_, _, _, _, _, rfl, ⟨(ST.out.midA bx.out HO1.out HO2.out).1, (ST.out.midA bx.out HO1.out HO2.out).2, blk_below ke.out (below_alloc (Below.refl _ _) _)⟩⟩ | exact ⟨_, _, _, _, _, rfl, ⟨(ST.out.midB bx.out KD.out GD.out HO1.out HO2.out).1, (ST.out.midB bx.out KD.out GD.out HO1.out HO2.out).2, blk_far (blk_far (blk_far (blk_far ke.out (blk_ne ke.out KD.out (by decide)) _) (blk_ne ke.out KD.out (by decide)) _) (blk_ne ke.out KD.out (by decide)) _) (blk_ne ke.out KD.out (by decide)) _⟩⟩
            case rest =>
              obtain ⟨gd, b2, b3, f2, f3, rfl, HM⟩ := hcut
              clear KX BX
              have kl0 : wc.cell? ⟨gl, 0, none⟩ = some (.int .i64 n) := (blk_cell HM.out.1.hl 0).trans rfl
              have kl1 : wc.cell? ⟨gl, 1, none⟩ = some (.slice A l.length c) := (blk_cell HM.out.1.hl 1).trans rfl
              have ke0 : wc.cell? ⟨ge, 0, none⟩ = some (.int .i64 x.f0) := (blk_cell HM.out.2.2 0).trans rfl
              have ke1 : wc.cell? ⟨ge, 1, none⟩ = some (.int .i64 x.f1) := (blk_cell HM.out.2.2 1).trans rfl
              have ke2 : wc.cell? ⟨ge, 2, none⟩ = some (.int .i64 x.f2) := (blk_cell HM.out.2.2 2).trans rfl
              have ks0 : wc.cell? ⟨gs, 0, none⟩ = some (.bool true) := (blk_cell HM.out.1.hs 0).trans rfl
              have ks1 : wc.cell? ⟨gs, 1, none⟩ = some (.slice a1 s.f1.length d1) := (blk_cell HM.out.1.hs 1).trans rfl
              have ks2 : wc.cell? ⟨gs, 2, none⟩ = some (.slice a2 s.f2.length d2) := (blk_cell HM.out.1.hs 2).trans rfl
              cases hok : eventOk n l x.f0 x.f1 x.f2 with
              | false =>
                have HO := Aside0.mk hok
                clear hok
                have HST := Aside0.mk (show runStep n l s x = ⟨1, ⟨true, s.f1, s.f2⟩⟩ by unfold runStep; rw [HO.out]; rfl)
                go_upto_region 11 with (go_at_call 36; refine (ev_at x.f0 x.f1 x.f2 HO.out (Kd.C_below HR.out HM.out.1.hB) HC.out).mono ?_; rintro e wd ⟨rfl, hb⟩; have HM2 := Aside0.mk (And.intro (HM.out.1.up hb) (And.intro (below_step HM.out.2.1 hb) (blk_below HM.out.2.2 hb))); clear hb; have kd0 : wd.cell? ⟨gd, 0, none⟩ = some (.int .i64 1) := (blk_cell HM2.out.1.hd 0).trans rfl; have kd1 : wd.cell? ⟨gd, 1, none⟩ = some (.bool true) := (blk_cell HM2.out.1.hd 1).trans rfl; have kd2 : wd.cell? ⟨gd, 2, none⟩ = some (.slice b2 s.f1.length f2) := (blk_cell HM2.out.1.hd 2).trans rfl; have kd3 : wd.cell? ⟨gd, 3, none⟩ = some (.slice b3 s.f2.length f3) := (blk_cell HM2.out.1.hd 3).trans rfl)
                clear kl0 kl1 ke0 ke1 ke2 ks0 ks1 ks2
                go_wp2_with (at_builtin; refine Kd.S_append k48 (w0 := w) w.heap.size rfl (.tmp 41) (.tmp 43) 38 48 (.agg #[.int .i64 0, .bool false, .slice none 0 0, .slice none 0 0]) 64 rfl Try.underlying38 info48 rfl (by decide) (by decide) u5 (runTo n l es j) ⟨1, ⟨true, s.f1, s.f2⟩⟩ [.int .i64 (1), .bool true, (.slice b2 s.f1.length f2), (.slice b3 s.f2.length f3)] (fun _ => True) (okp (.slice b2 s.f1.length f2) (.slice b3 s.f2.length f3)) rfl rfl (HM2.out.1.elem (1) true) (fun k hk => ⟨trivial, HM2.out.1.okp_ne hk⟩) (fun _ _ => trivial) HM2.out.1.rest HM2.out.1.hB HM2.out.1.hB.size (by rw [runTo_length]; have := HE.out; omega) ?_; intro vn wn hsn hbn hgn _; have HSN := Aside0.mk hsn; have HBN := Aside0.mk hbn; have HGN := Aside0.mk hgn; have KD := Aside0.mk (HM2.out.1.at_ hgn).1; have KS := Aside0.mk (HM2.out.1.at_ hgn).2; clear hsn hbn hgn; have kd0 : wn.cell? ⟨gd, 0, none⟩ = some (.int .i64 (1)) := (blk_cell KD.out 0).trans rfl; have kd1 : wn.cell? ⟨gd, 1, none⟩ = some (.bool true) := (blk_cell KD.out 1).trans rfl; have kd2 : wn.cell? ⟨gd, 2, none⟩ = some (.slice b2 s.f1.length f2) := (blk_cell KD.out 2).trans rfl; have kd3 : wn.cell? ⟨gd, 3, none⟩ = some (.slice b3 s.f2.length f3) := (blk_cell KD.out 3).trans rfl; have kt0 : wn.cell? ⟨gs, 0, none⟩ = some (.bool true) := (blk_cell KS.out 0).trans rfl; have kt1 : wn.cell? ⟨gs, 1, none⟩ = some (.slice a1 s.f1.length d1) := (blk_cell KS.out 1).trans rfl; have kt2 : wn.cell? ⟨gs, 2, none⟩ = some (.slice a2 s.f2.length d2) := (blk_cell KS.out 2).trans rfl; have zt0 := blk_frozen KS.out 0; have zt1 := blk_frozen KS.out 1; have zt2 := blk_frozen KS.out 2)
                have SN := Aside0.mk (HM2.out.1.fin HSN.out HBN.out HGN.out)
                go_roundg gk
                case measure => omega
                case rel => exact ⟨j + 1, congrArg (Value.int .i64) (wrap_succ (by have := HE.out; omega)), ⟨by have := HJ.out; omega⟩, _, _, ⟨by rw [HSU.out, HRU.out, HST.out]; exact SN.out⟩⟩
              | true =>
                have HO := Aside0.mk hok
                clear hok
                have HST := Aside0.mk (show runStep n l s x = ⟨doCode l s.f1 s.f2 x.f0 x.f1, ⟨true, doSecs l s.f1 s.f2 x.f0 x.f1 x.f2, doDead l s.f1 s.f2 x.f0 x.f1⟩⟩ by unfold runStep; rw [if_pos HO.out])
                go_upto_region 11 with (first | (go_at_call 36; refine (ev_at x.f0 x.f1 x.f2 HO.out (Kd.C_below HR.out HM.out.1.hB) HC.out).mono ?_; rintro e wd ⟨rfl, hb⟩; have HM2 := Aside0.mk (And.intro (HM.out.1.up hb) (And.intro (below_step HM.out.2.1 hb) (blk_below HM.out.2.2 hb))); clear hb; have kl0 : wd.cell? ⟨gl, 0, none⟩ = some (.int .i64 n) := (blk_cell HM2.out.1.hl 0).trans rfl; have kl1 : wd.cell? ⟨gl, 1, none⟩ = some (.slice A l.length c) := (blk_cell HM2.out.1.hl 1).trans rfl; have ke0 : wd.cell? ⟨ge, 0, none⟩ = some (.int .i64 x.f0) := (blk_cell HM2.out.2.2 0).trans rfl; have ke1 : wd.cell? ⟨ge, 1, none⟩ = some (.int .i64 x.f1) := (blk_cell HM2.out.2.2 1).trans rfl; have ke2 : wd.cell? ⟨ge, 2, none⟩ = some (.int .i64 x.f2) := (blk_cell HM2.out.2.2 2).trans rfl; have ks0 : wd.cell? ⟨gs, 0, none⟩ = some (.bool true) := (blk_cell HM2.out.1.hs 0).trans rfl; have ks1 : wd.cell? ⟨gs, 1, none⟩ = some (.slice a1 s.f1.length d1) := (blk_cell HM2.out.1.hs 1).trans rfl; have ks2 : wd.cell? ⟨gs, 2, none⟩ = some (.slice a2 s.f2.length d2) := (blk_cell HM2.out.1.hs 2).trans rfl) | (go_at_call 96; refine (do_is n A c l true a1 d1 s.f1 a2 d2 s.f2 x.f0 x.f1 x.f2 _ (Kd.C_below HR.out HM2.out.1.hB) HC.out (Kd.V_reads' (Kd.V_below ST.out.V1 HM2.out.2.1)).2.2 (Kd.V_reads' ST.out.V1).2.1 (Kd.V_reads' (Kd.V_below ST.out.V2 HM2.out.2.1)).2.2 (Kd.V_reads' ST.out.V2).2.1 HL.out (by rw [HLT.out.1]; have := HN.out; omega) HLT.out.2.1 HO.out).mono ?_; rintro e wf ⟨v2, v3, rfl, r1, r2, hb⟩; obtain ⟨b4, f4, rfl⟩ := Kd.R_slice r1; obtain ⟨b5, f5, rfl⟩ := Kd.R_slice r2; have KD := Aside0.mk (blk_below HM2.out.1.hd hb); have NR1 := Aside0.mk (Kd.R_lower r1 HM2.out.2.1.size); have NR2 := Aside0.mk (Kd.R_lower r2 HM2.out.2.1.size); have BF := Aside0.mk (below_step HM2.out.2.1 hb); clear r1 r2 hb; have kd0 : wf.cell? ⟨gd, 0, none⟩ = some (.int .i64 1) := (blk_cell KD.out 0).trans rfl; have kd1 : wf.cell? ⟨gd, 1, none⟩ = some (.bool true) := (blk_cell KD.out 1).trans rfl; have kd2 : wf.cell? ⟨gd, 2, none⟩ = some (.slice b2 s.f1.length f2) := (blk_cell KD.out 2).trans rfl; have kd3 : wf.cell? ⟨gd, 3, none⟩ = some (.slice b3 s.f2.length f3) := (blk_cell KD.out 3).trans rfl; have zd0 := blk_frozen KD.out 0; have zd1 := blk_frozen KD.out 1; have zd2 := blk_frozen KD.out 2; have zd3 := blk_frozen KD.out 3))
                clear kl0 kl1 ke0 ke1 ke2 ks0 ks1 ks2 kd0 kd1 kd2 kd3 zd0 zd1 zd2 zd3
                have HM3 := Aside0.mk (ST.out.midB (code := (doCode l s.f1 s.f2 x.f0 x.f1)) (b := true) BF.out KD.out HM2.out.1.gde NR1.out NR2.out)
                clear HM HM2 KD NR1 NR2 BF
                generalize ((((wf.setCell ⟨gd, 0, none⟩ (.int .i64 (doCode l s.f1 s.f2 x.f0 x.f1))).setCell ⟨gd, 1, none⟩ (.bool true)).setCell ⟨gd, 2, none⟩ (.slice b4 (doSecs l s.f1 s.f2 x.f0 x.f1 x.f2).length f4)).setCell ⟨gd, 3, none⟩ (.slice b5 (doDead l s.f1 s.f2 x.f0 x.f1).length f5)) = wg at HM3 ⊢
                have kd0 : wg.cell? ⟨gd, 0, none⟩ = some (.int .i64 (doCode l s.f1 s.f2 x.f0 x.f1)) := (blk_cell HM3.out.1.hd 0).trans rfl
                have kd1 : wg.cell? ⟨gd, 1, none⟩ = some (.bool true) := (blk_cell HM3.out.1.hd 1).trans rfl
                have kd2 : wg.cell? ⟨gd, 2, none⟩ = some (.slice b4 (doSecs l s.f1 s.f2 x.f0 x.f1 x.f2).length f4) := (blk_cell HM3.out.1.hd 2).trans rfl
                have kd3 : wg.cell? ⟨gd, 3, none⟩ = some (.slice b5 (doDead l s.f1 s.f2 x.f0 x.f1).length f5) := (blk_cell HM3.out.1.hd 3).trans rfl
                go_wp2_with (at_builtin; refine Kd.S_append k48 (w0 := w) w.heap.size rfl (.tmp 41) (.tmp 43) 38 48 (.agg #[.int .i64 0, .bool false, .slice none 0 0, .slice none 0 0]) 64 rfl Try.underlying38 info48 rfl (by decide) (by decide) u5 (runTo n l es j) ⟨(doCode l s.f1 s.f2 x.f0 x.f1), ⟨true, doSecs l s.f1 s.f2 x.f0 x.f1 x.f2, doDead l s.f1 s.f2 x.f0 x.f1⟩⟩ [.int .i64 ((doCode l s.f1 s.f2 x.f0 x.f1)), .bool true, (.slice b4 (doSecs l s.f1 s.f2 x.f0 x.f1 x.f2).length f4), (.slice b5 (doDead l s.f1 s.f2 x.f0 x.f1).length f5)] (fun _ => True) (okp (.slice b4 (doSecs l s.f1 s.f2 x.f0 x.f1 x.f2).length f4) (.slice b5 (doDead l s.f1 s.f2 x.f0 x.f1).length f5)) rfl rfl (HM3.out.1.elem ((doCode l s.f1 s.f2 x.f0 x.f1)) true) (fun k hk => ⟨trivial, HM3.out.1.okp_ne hk⟩) (fun _ _ => trivial) HM3.out.1.rest HM3.out.1.hB HM3.out.1.hB.size (by rw [runTo_length]; have := HE.out; omega) ?_; intro vn wn hsn hbn hgn _; have HSN := Aside0.mk hsn; have HBN := Aside0.mk hbn; have HGN := Aside0.mk hgn; have KD := Aside0.mk (HM3.out.1.at_ hgn).1; have KS := Aside0.mk (HM3.out.1.at_ hgn).2; clear hsn hbn hgn; have kd0 : wn.cell? ⟨gd, 0, none⟩ = some (.int .i64 ((doCode l s.f1 s.f2 x.f0 x.f1))) := (blk_cell KD.out 0).trans rfl; have kd1 : wn.cell? ⟨gd, 1, none⟩ = some (.bool true) := (blk_cell KD.out 1).trans rfl; have kd2 : wn.cell? ⟨gd, 2, none⟩ = some (.slice b4 (doSecs l s.f1 s.f2 x.f0 x.f1 x.f2).length f4) := (blk_cell KD.out 2).trans rfl; have kd3 : wn.cell? ⟨gd, 3, none⟩ = some (.slice b5 (doDead l s.f1 s.f2 x.f0 x.f1).length f5) := (blk_cell KD.out 3).trans rfl; have kt0 : wn.cell? ⟨gs, 0, none⟩ = some (.bool true) := (blk_cell KS.out 0).trans rfl; have kt1 : wn.cell? ⟨gs, 1, none⟩ = some (.slice a1 s.f1.length d1) := (blk_cell KS.out 1).trans rfl; have kt2 : wn.cell? ⟨gs, 2, none⟩ = some (.slice a2 s.f2.length d2) := (blk_cell KS.out 2).trans rfl; have zt0 := blk_frozen KS.out 0; have zt1 := blk_frozen KS.out 1; have zt2 := blk_frozen KS.out 2)
                have SN := Aside0.mk (HM3.out.1.fin HSN.out HBN.out HGN.out)
                go_roundg gk
                case measure => omega
                case rel => exact ⟨j + 1, congrArg (Value.int .i64) (wrap_succ (by have := HE.out; omega)), ⟨by have := HJ.out; omega⟩, _, _, ⟨by rw [HSU.out, HRU.out, HST.out]; exact SN.out⟩⟩
        · have hlt' : decide ((j : Int) < (es.length : Int)) = false := decide_eq_false (by omega)
          have hj : j = es.length := by have := HJ.out; omega
          have HRN := Aside0.mk (show runTo n l es j = run n l es by rw [run, if_pos ⟨HL.out, HE.out⟩, hj])
          clear hj
          go_wp2_with fail
          go_ret
          exact ⟨_, rfl, HRN.out ▸ ST.out.HS, ST.out.hB⟩
    · skip
      have b0 : (layoutOk n l != 0) = false := bne_eq_false_iff_eq.mpr hl
      have b1 : decide ((es.length : Int) > 2000) = true := decide_eq_true (by omega)
      have HV := Aside0.mk (show ([] : List S48) = run n l es by rw [run, if_neg (fun h => he h.2)])
      clear hl he
      go_enter Try.func29, Try.ntmps29
      go_wp2_with (first | ((with_reducible refine gate_dst (N := 2) rfl ?_); refine box_event ?hg (N := 2) ?hd (cs := #[.int .i64 n, .slice A l.length c]) (t := 30) ?hr ?_; (case hd => rfl); (case hg => rfl); (case hr => first | (go_simp; done) | (go_simp; rfl)); intro gl el wl kl bl; have hcz0 := (blk_cell kl 0).trans (show _ = some (Value.int .i64 n) from rfl); have hcz1 := (blk_cell kl 1).trans (show _ = some (Value.slice A l.length c) from rfl); have KL := Aside0.mk kl; have BL := Aside0.mk bl; have GL := Aside0.mk (show w.heap.size ≤ gl by rw [el]; exact Nat.le_refl _); clear kl bl el) | (go_at_call 25; refine (lay_is (Kd.C_below HR.out BL.out) HC.out).mono ?_; rintro e w1 ⟨rfl, hb⟩; have KL := Aside0.mk (blk_below KL.out hb); have BL := Aside0.mk (below_step BL.out hb); clear hb; have hcy0 := (blk_cell KL.out 0).trans (show _ = some (Value.int .i64 n) from rfl); have hcy1 := (blk_cell KL.out 1).trans (show _ = some (Value.slice A l.length c) from rfl)))
      go_ret
      exact ⟨_, rfl, HV.out ▸ Kd.S_nil _ _ _ _ _, BL.out⟩
  · skip
    have b0 : (layoutOk n l != 0) = true := bne_iff_ne.mpr hl
    have HV := Aside0.mk (show ([] : List S48) = run n l es by rw [run, if_neg (fun h => hl h.1)])
    clear hl
    go_enter Try.func29, Try.ntmps29
    go_wp2_with (first | ((with_reducible refine gate_dst (N := 2) rfl ?_); refine box_event ?hg (N := 2) ?hd (cs := #[.int .i64 n, .slice A l.length c]) (t := 30) ?hr ?_; (case hd => rfl); (case hg => rfl); (case hr => first | (go_simp; done) | (go_simp; rfl)); intro gl el wl kl bl; have hcz0 := (blk_cell kl 0).trans (show _ = some (Value.int .i64 n) from rfl); have hcz1 := (blk_cell kl 1).trans (show _ = some (Value.slice A l.length c) from rfl); have KL := Aside0.mk kl; have BL := Aside0.mk bl; have GL := Aside0.mk (show w.heap.size ≤ gl by rw [el]; exact Nat.le_refl _); clear kl bl el) | (go_at_call 25; refine (lay_is (Kd.C_below HR.out BL.out) HC.out).mono ?_; rintro e w1 ⟨rfl, hb⟩; have KL := Aside0.mk (blk_below KL.out hb); have BL := Aside0.mk (below_step BL.out hb); clear hb; have hcy0 := (blk_cell KL.out 0).trans (show _ = some (Value.int .i64 n) from rfl); have hcy1 := (blk_cell KL.out 1).trans (show _ = some (Value.slice A l.length c) from rfl)))
    go_ret
    exact ⟨_, rfl, HV.out ▸ Kd.S_nil _ _ _ _ _, BL.out⟩
end Go.Proofs.Ytpdnabhpkdchjaa.P
namespace Go.Proofs.Ytpdnabhpkdchjaa.P
open Go.RowKit Go.Proofs.YtpdnabhpkdchjaaW.PrintWords Go.Proofs.YtpdnabhpkdchjaaW.PrintLast Go.Proofs.YtpdnabhpkdchjaaW.PrintMore
attribute [local go_sem ↓] Go.wp_at_zero Go.wp_at_succ
set_option linter.unusedVariables false
set_option linter.unusedSimpArgs false
structure StSt (w0 w : World) (gl gz : Nat) (lv zv : List Value) : Prop where
  hB : Below w0.heap.size w0 w
  hl : w.heap[gl]? = some (.cells lv.toArray 30 (0, 0))
  hz : w.heap[gz]? = some (.cells zv.toArray 46 (0, 0))
structure SeSt (w0 w : World) (gl gz gx : Nat) (lv zv xv : List Value) : Prop where
  S : StSt w0 w gl gz lv zv
  hx : w.heap[gx]? = some (.cells xv.toArray 50 (0, 0))
section
variable {w0 w w' : World} {gl gz gx : Nat} {lv zv xv : List Value}
theorem StSt.up (h : StSt w0 w gl gz lv zv) (hb : Below w.heap.size w w') : StSt w0 w' gl gz lv zv := ⟨below_step h.hB hb, blk_below h.hl hb, blk_below h.hz hb⟩
theorem SeSt.up (h : SeSt w0 w gl gz gx lv zv xv) (hb : Below w.heap.size w w') : SeSt w0 w' gl gz gx lv zv xv := ⟨h.S.up hb, blk_below h.hx hb⟩
theorem StSt.fill {y0 y1 y2 y3 y4 x0 x1 x2 x3 x4 : Value} (h : StSt w0 w gl gz lv zv) (hx : w'.heap[gx]? = some (.cells #[x0, x1, x2, x3, x4] 50 (0, 0))) (hb : Below w.heap.size w w') (hg : w.heap.size ≤ gx) :
    SeSt w0 (((((w'.setCell ⟨gx, 0, none⟩ y0).setCell ⟨gx, 1, none⟩ y1).setCell ⟨gx, 2, none⟩ y2).setCell ⟨gx, 3, none⟩ y3).setCell ⟨gx, 4, none⟩ y4) gl gz gx lv zv [y0, y1, y2, y3, y4] := by
  have h2 := below_set (j := 4) (v := y4) (below_set (j := 3) (v := y3) (below_set (j := 2) (v := y2) (below_set (j := 1) (v := y1) (below_set (j := 0) (v := y0) hb hg) hg) hg) hg) hg
  exact ⟨h.up h2, blk_put (blk_put (blk_put (blk_put (blk_put hx 0 y0 rfl) 1 y1 rfl) 2 y2 rfl) 3 y3 rfl) 4 y4 rfl⟩
end
end Go.Proofs.Ytpdnabhpkdchjaa.P
namespace Go.Proofs.Ytpdnabhpkdchjaa.P
open Go.RowKit Go.Proofs.YtpdnabhpkdchjaaW.PrintWords Go.Proofs.YtpdnabhpkdchjaaW.PrintLast Go.Proofs.YtpdnabhpkdchjaaW.PrintMore
attribute [local go_sem ↓] Go.wp_at_zero Go.wp_at_succ
set_option linter.unusedVariables false
set_option linter.unusedSimpArgs false
structure SpSt (w0 w : World) (gl gz go ge gd : Nat) (lv zv sv ev dv : List Value) (v1 v2 : Value) (ss : List S50) (dd : List Bool) : Prop where
  D : DoSt w0 w gl go ge gd lv sv ev dv v1 v2 ss dd
  hz : w.heap[gz]? = some (.cells zv.toArray 46 (0, 0))
section
variable {w0 w w' : World} {gl gz go ge gd : Nat} {lv zv sv ev dv : List Value} {v1 v2 : Value} {ss ss' : List S50} {dd dd' : List Bool}
theorem SpSt.up (h : SpSt w0 w gl gz go ge gd lv zv sv ev dv v1 v2 ss dd) (hb : Below w.heap.size w w') : SpSt w0 w' gl gz go ge gd lv zv sv ev dv v1 v2 ss dd := ⟨h.D.up hb, blk_below h.hz hb⟩
theorem SpSt.sec {gr m cr : Nat} (h : SpSt w0 w gl gz go ge gd lv zv sv ev dv (.slice (some ⟨gr, 0, none⟩) m cr) v2 ss dd) (H1 : Kd.R k50 50 w' w0.heap.size (fun _ => True) (.slice (some ⟨gr, 0, none⟩) m cr) ss') (hg : w.grownBy w' (some gr)) :
    SpSt w0 w' gl gz go ge gd lv zv sv ev dv (.slice (some ⟨gr, 0, none⟩) m cr) v2 ss' dd := ⟨h.D.sec H1 hg, blk_grown h.hz hg (Kd.R_ne h.D.H1 h.hz (by decide))⟩
theorem SpSt.dead {gb m cb : Nat} (h : SpSt w0 w gl gz go ge gd lv zv sv ev dv v1 (.slice (some ⟨gb, 0, none⟩) m cb) ss dd) (i : Int) (x : Bool) :
    SpSt w0 (w.setCell ⟨gb, i.toNat, none⟩ (.bool x)) gl gz go ge gd lv zv sv ev dv v1 (.slice (some ⟨gb, 0, none⟩) m cb) ss (dd.set i.toNat x) :=
  ⟨h.D.dead i x, blk_grown h.hz (Kd.R_putg h.D.H2 i x).2 (Kd.R_ne h.D.H2 h.hz (by decide))⟩
end
end Go.Proofs.Ytpdnabhpkdchjaa.P
namespace Go.Proofs.Ytpdnabhpkdchjaa.P
open Go.RowKit Go.Proofs.YtpdnabhpkdchjaaW.PrintWords Go.Proofs.YtpdnabhpkdchjaaW.PrintLast Go.Proofs.YtpdnabhpkdchjaaW.PrintMore
set_option linter.unusedVariables false
set_option linter.unusedSimpArgs false
theorem info138 : (Try.prog.info? 138).map (fun i => (i.zero, i.size, i.bytes)) = some (some (.agg #[(.int .i64 0), (.int .i64 0)]), 2, 16) := by kernel_rfl
theorem gapRow_succ_no {ss : List S50} {t : List Int} {i : Int} {j : Nat} (h : ((rd_T50 ss (j : Int)).f0 == 0) = false ∨ (rd t (j : Int) != 0) = false) : gapRow ss t i (j + 1) = gapRow ss t i j := by
  rw [gapRow, if_neg (by rcases h with h | h <;> simp [h]), List.append_nil]
theorem gapRow_succ_yes {ss : List S50} {t : List Int} {i : Int} {j : Nat} (h1 : ((rd_T50 ss (j : Int)).f0 == 0) = true) (h2 : (rd t (j : Int) != 0) = true) : gapRow ss t i (j + 1) = gapRow ss t i j ++ [⟨i, (j : Int)⟩] := by
  rw [gapRow, if_pos ⟨h1, h2⟩]
section
variable {w0 w w' : World} {g : Nat}
theorem fill4 {x0 x1 x2 x3 y0 y1 y2 y3 : Value} (hx : w'.heap[g]? = some (.cells #[x0, x1, x2, x3] 48 (0, 0))) (hb : Below w.heap.size w w') (hg : w.heap.size ≤ g) :
    Below w.heap.size w ((((w'.setCell ⟨g, 0, none⟩ y0).setCell ⟨g, 1, none⟩ y1).setCell ⟨g, 2, none⟩ y2).setCell ⟨g, 3, none⟩ y3) ∧ ((((w'.setCell ⟨g, 0, none⟩ y0).setCell ⟨g, 1, none⟩ y1).setCell ⟨g, 2, none⟩ y2).setCell ⟨g, 3, none⟩ y3).heap[g]? = some (.cells #[y0, y1, y2, y3] 48 (0, 0)) :=
  ⟨below_set (j := 3) (v := y3) (below_set (j := 2) (v := y2) (below_set (j := 1) (v := y1) (below_set (j := 0) (v := y0) hb hg) hg) hg) hg, blk_put (blk_put (blk_put (blk_put hx 0 y0 rfl) 1 y1 rfl) 2 y2 rfl) 3 y3 rfl⟩
theorem fill5 {x0 x1 x2 x3 x4 y0 y1 y2 y3 y4 : Value} (hx : w'.heap[g]? = some (.cells #[x0, x1, x2, x3, x4] 50 (0, 0))) (hb : Below w.heap.size w w') (hg : w.heap.size ≤ g) :
    Below w.heap.size w (((((w'.setCell ⟨g, 0, none⟩ y0).setCell ⟨g, 1, none⟩ y1).setCell ⟨g, 2, none⟩ y2).setCell ⟨g, 3, none⟩ y3).setCell ⟨g, 4, none⟩ y4) ∧ (((((w'.setCell ⟨g, 0, none⟩ y0).setCell ⟨g, 1, none⟩ y1).setCell ⟨g, 2, none⟩ y2).setCell ⟨g, 3, none⟩ y3).setCell ⟨g, 4, none⟩ y4).heap[g]? = some (.cells #[y0, y1, y2, y3, y4] 50 (0, 0)) :=
  ⟨below_set (j := 4) (v := y4) (below_set (j := 3) (v := y3) (below_set (j := 2) (v := y2) (below_set (j := 1) (v := y1) (below_set (j := 0) (v := y0) hb hg) hg) hg) hg) hg, blk_put (blk_put (blk_put (blk_put (blk_put hx 0 y0 rfl) 1 y1 rfl) 2 y2 rfl) 3 y3 rfl) 4 y4 rfl⟩
end
set_option maxHeartbeats 8000000 in
set_option maxRecDepth 100000 in
theorem gaps_is (n : Int) (A : Option Addr) (c : Nat) (l : List S88) (A1 : Option Addr) (c1 : Nat) (es : List S56) (w : World) (hr : Kd.C k88 w A l.length l) (hc : l.length ≤ c) (hr1 : Kd.C k56 w A1 es.length es) (hc1 : es.length ≤ c1) :
    Calls Try.prog 63 #[.agg #[.int .i64 n, .slice A l.length c], .slice A1 es.length c1] w fun e w' => ∃ v0_ : Value, e = .returned v0_ ∧ Kd.R k138 138 w' w.heap.size (fun _ => True) v0_ (gaps n l es) ∧ Below w.heap.size w w' := by
  have HR := Aside0.mk hr
  have HC := Aside0.mk hc
  have HE := Aside0.mk hr1
  have HEC := Aside0.mk hc1
  have HD := Aside0.mk (gaps_dims n l es)
  have HG := Aside0.mk (show gaps n l es = gapTo (run n l es) (truth n l es) (run n l es).length from rfl)
  clear hr hc hr1 hc1
  go_enter Try.func63, Try.ntmps63
  go_upto_region 1 with ((with_reducible refine gate_dst (N := 2) rfl ?_); refine box_event ?hg (N := 2) ?hd (cs := #[.int .i64 n, .slice A l.length c]) (t := 30) ?hr ?_; (case hd => rfl); (case hg => rfl); (case hr => first | (go_simp; done) | (go_simp; rfl)); intro gl el wl kl bl; clear el; have KL := Aside0.mk kl; have BL := Aside0.mk bl; clear kl bl)
  have kl0 : wl.cell? ⟨gl, 0, none⟩ = some (.int .i64 n) := (blk_cell KL.out 0).trans rfl; have kl1 : wl.cell? ⟨gl, 1, none⟩ = some (.slice A l.length c) := (blk_cell KL.out 1).trans rfl
  go_upto_region 3 with (go_at_call 54; refine (truth_is (Kd.C_below HR.out BL.out) HC.out (Kd.C_below HE.out BL.out) HEC.out).mono ?_; rintro e w1 ⟨v5, rfl, hs, hb⟩; obtain ⟨A5, c5, rfl⟩ := Kd.S_slice hs; have RT := Aside0.mk (Kd.S_reads' hs).2.2; have B1 := Aside0.mk (below_step BL.out hb); have KL := Aside0.mk (blk_below KL.out hb); clear hs hb)
  clear kl0 kl1 BL
  have kl0 : w1.cell? ⟨gl, 0, none⟩ = some (.int .i64 n) := (blk_cell KL.out 0).trans rfl; have kl1 : w1.cell? ⟨gl, 1, none⟩ = some (.slice A l.length c) := (blk_cell KL.out 1).trans rfl
  go_wp2_with (go_at_call 29; refine (run_is n _ _ l _ _ es _ (Kd.C_below HR.out B1.out) HC.out (Kd.C_below HE.out B1.out) HEC.out).mono ?_; rintro e w2 ⟨v6, rfl, hs, hb⟩; obtain ⟨A6, c6, rfl⟩ := Kd.S_slice hs; have RR := Aside0.mk (Kd.S_reads' hs).2.2; have RT := Aside0.mk (Kd.C_below RT.out hb); have B2 := Aside0.mk (below_step B1.out hb); clear hs hb)
  clear kl0 kl1 KL B1
  generalize truth n l es = tr at *
  generalize run n l es = rs at *
  go_loopg [6, 18] rs.length (fun kq v6 v18 w' => ∃ i : Nat, v18 = .int .i64 i ∧ Aside0 (i + kq = rs.length) ∧ Aside0 (Kd.R k138 138 w' w2.heap.size (fun _ => True) v6 (gapTo rs tr i)) ∧ Aside0 (Below w2.heap.size w2 w'))
  case atStart => exact ⟨0, rfl, ⟨by omega⟩, ⟨Kd.R_nil _ _ _ _ _⟩, ⟨Below.refl _ _⟩⟩
  case round =>
    obtain ⟨i, rfl, HI, HO, HB⟩ := hrel
    by_cases hlt : i < rs.length
    · cases gk with
      | zero => exact absurd HI.out (by omega)
      | succ go1 =>
      have hlt' : decide ((i : Int) < (rs.length : Int)) = true := decide_eq_true (by omega)
      have q0 : (0 : Int) ≤ (i : Int) := by omega
      have q1 : (i : Int) < (rs.length : Int) := by omega
      have q2 : (i : Int) < (tr.length : Int) := by have := HD.out.1; omega
      have I60 := Aside0.mk (show i < 2000 by have := HD.out.2.1; omega)
      obtain ⟨ad, A2, c2, A3, c3, e, x0, x1, x2, x3, l2, g2, l3, g3⟩ := at_T48 RR.out (i : Int) q0 q1
      cases e
      obtain ⟨adt, At, ct, e, yt, lt, gt⟩ := at_L12 RT.out (i : Int) q0 q2
      cases e
      rw [Int.toNat_natCast] at x0 x1 x2 x3 yt
      have hd := HD.out.2.2 i hlt
      have GS := Aside0.mk (show gapTo rs tr (i + 1) = gapTo rs tr i ++ gapRow (rd_T48 rs (i : Int)).f1.f1 (rd_L12 tr (i : Int)) (i : Int) (rd_T48 rs (i : Int)).f1.f1.length from rfl)
      generalize rd_T48 rs (i : Int) = x at x0 x1 x2 x3 l2 g2 l3 g3 hd GS
      obtain ⟨xc, xb, ss, dd⟩ := x
      dsimp only at x0 x1 x2 x3 l2 g2 l3 g3 hd GS
      generalize rd_L12 tr (i : Int) = t at yt lt gt hd GS
      have GT := Aside0.mk gt
      have G2 := Aside0.mk g2
      have DL := Aside0.mk hd
      have YT := Aside0.mk yt
      have LT := Aside0.mk (show (gapTo rs tr i).length ≤ i * 60 from gapTo_len (fun j hj => (HD.out.2.2 j hj).2) i (by omega))
      replace x0 := pw_cell_below HB.out x0
      replace x1 := pw_cell_below HB.out x1
      replace x2 := pw_cell_below HB.out x2
      replace x3 := pw_cell_below HB.out x3
      clear gt g2 g3 hd yt l2 l3 lt
      go_upto_region 6 with ((with_reducible refine gate_dst (N := 8) rfl ?_); refine box_event ?hg (N := 8) ?hd (cs := #[.int .i64 0, .bool false, .slice none 0 0, .slice none 0 0]) (t := 48) ?hr ?_; (case hd => rfl); (case hg => rfl); (case hr => first | (go_simp; done) | (go_simp; rfl)); intro gx ex wx kx bx; have EX := Aside0.mk ex; have KX := Aside0.mk kx; have BX := Aside0.mk bx; clear ex kx bx; have kx0 : wx.cell? ⟨gx, 0, none⟩ = some (.int .i64 0) := (blk_cell KX.out 0).trans rfl; have kx1 : wx.cell? ⟨gx, 1, none⟩ = some (.bool false) := (blk_cell KX.out 1).trans rfl; have kx2 : wx.cell? ⟨gx, 2, none⟩ = some (.slice none 0 0) := (blk_cell KX.out 2).trans rfl; have kx3 : wx.cell? ⟨gx, 3, none⟩ = some (.slice none 0 0) := (blk_cell KX.out 3).trans rfl; have zkx0 := blk_frozen KX.out 0; have zkx1 := blk_frozen KX.out 1; have zkx2 := blk_frozen KX.out 2; have zkx3 := blk_frozen KX.out 3)
      have FX := Aside0.mk (fill4 (y0 := .int .i64 xc) (y1 := .bool xb) (y2 := .slice A2 ss.length c2) (y3 := .slice A3 dd.length c3) KX.out BX.out (Nat.le_of_eq EX.out.symm))
      clear kx0 kx1 kx2 kx3 zkx0 zkx1 zkx2 zkx3 KX BX EX x0 x1 x2 x3
      generalize ((((wx.setCell ⟨gx, 0, none⟩ (.int .i64 xc)).setCell ⟨gx, 1, none⟩ (.bool xb)).setCell ⟨gx, 2, none⟩ (.slice A2 ss.length c2)).setCell ⟨gx, 3, none⟩ (.slice A3 dd.length c3)) = w3 at FX ⊢
      have kx2 : w3.cell? ⟨gx, 2, none⟩ = some (.slice A2 ss.length c2) := (blk_cell FX.out.2 2).trans rfl
      have HO := Aside0.mk (Kd.R_below HO.out FX.out.1)
      have HB := Aside0.mk (below_step HB.out FX.out.1)
      clear FX
      go_wp2_with fail
      clear kx2
      go_loopg [6, 27] ss.length (fun kq v6 v27 w' => ∃ j : Nat, v27 = .int .i64 j ∧ Aside0 (j + kq = ss.length) ∧ Aside0 (Kd.R k138 138 w' w2.heap.size (fun _ => True) v6 (gapTo rs tr i ++ gapRow ss t i j)) ∧ Aside0 (Below w2.heap.size w2 w'))
      case atStart => exact ⟨0, rfl, ⟨by omega⟩, ⟨by rw [gapRow, List.append_nil]; exact HO.out⟩, HB⟩
      case round =>
        clear HO HB
        obtain ⟨j, rfl, HJ, HO, HB⟩ := hrel
        by_cases hjt : j < ss.length
        · cases gk with
          | zero => exact absurd HJ.out (by omega)
          | succ go2 =>
          have hjt' : decide ((j : Int) < (ss.length : Int)) = true := decide_eq_true (by omega)
          have r0 : (0 : Int) ≤ (j : Int) := by omega
          have r1 : (j : Int) < (ss.length : Int) := by omega
          have r2 : (j : Int) < (t.length : Int) := by have := DL.out.1; omega
          obtain ⟨ads, e, x0, x1, x2, x3, x4⟩ := at_T50 G2.out (j : Int) r0 r1
          cases e
          obtain ⟨ada, e, -⟩ := GT.out.2.2 (by omega)
          subst e
          have yv := Kd.foot_int GT.out (j : Int) r0 r2
          have yt := YT.out
          rw [Int.toNat_natCast] at x0 x1 x2 x3 x4 yv
          have HL := Aside0.mk (show (gapTo rs tr i ++ gapRow ss t i j).length ≤ 120000 by rw [List.length_append]; have := gapRow_len ss t i j; have := LT.out; have := I60.out; have := DL.out.2; omega)
          have N1 := Aside0.mk (gapRow_succ_no (ss := ss) (t := t) (i := (i : Int)) (j := j))
          have N2 := Aside0.mk (gapRow_succ_yes (ss := ss) (t := t) (i := (i : Int)) (j := j))
          generalize rd_T50 ss (j : Int) = s at x0 x1 x2 x3 x4 N1 N2
          generalize rd t (j : Int) = tv at yv N1 N2
          replace x0 := pw_cell_below HB.out x0
          replace x1 := pw_cell_below HB.out x1
          replace x2 := pw_cell_below HB.out x2
          replace x3 := pw_cell_below HB.out x3
          replace x4 := pw_cell_below HB.out x4
          go_upto_region 9 with ((with_reducible refine gate_dst (N := 10) rfl ?_); refine box_event ?hg (N := 10) ?hd (cs := #[.int .i64 0, .int .i64 0, .bool false, .bool false, .int .i64 0]) (t := 50) ?hr ?_; (case hd => rfl); (case hg => rfl); (case hr => first | (go_simp; done) | (go_simp; rfl)); intro gs es_ ws ks bs; have ES := Aside0.mk es_; have KS := Aside0.mk ks; have BS := Aside0.mk bs; clear es_ ks bs; have ks0 : ws.cell? ⟨gs, 0, none⟩ = some (.int .i64 0) := (blk_cell KS.out 0).trans rfl; have ks1 : ws.cell? ⟨gs, 1, none⟩ = some (.int .i64 0) := (blk_cell KS.out 1).trans rfl; have ks2 : ws.cell? ⟨gs, 2, none⟩ = some (.bool false) := (blk_cell KS.out 2).trans rfl; have ks3 : ws.cell? ⟨gs, 3, none⟩ = some (.bool false) := (blk_cell KS.out 3).trans rfl; have ks4 : ws.cell? ⟨gs, 4, none⟩ = some (.int .i64 0) := (blk_cell KS.out 4).trans rfl; have zks0 := blk_frozen KS.out 0; have zks1 := blk_frozen KS.out 1; have zks2 := blk_frozen KS.out 2; have zks3 := blk_frozen KS.out 3; have zks4 := blk_frozen KS.out 4)
          have FS := Aside0.mk (fill5 (y0 := .int .i64 s.f0) (y1 := .int .i64 s.f1) (y2 := .bool s.f2) (y3 := .bool s.f3) (y4 := .int .i64 s.f4) KS.out BS.out (Nat.le_of_eq ES.out.symm))
          clear ks0 ks1 ks2 ks3 ks4 zks0 zks1 zks2 zks3 zks4 KS BS ES x0 x1 x2 x3 x4
          generalize (((((ws.setCell ⟨gs, 0, none⟩ (.int .i64 s.f0)).setCell ⟨gs, 1, none⟩ (.int .i64 s.f1)).setCell ⟨gs, 2, none⟩ (.bool s.f2)).setCell ⟨gs, 3, none⟩ (.bool s.f3)).setCell ⟨gs, 4, none⟩ (.int .i64 s.f4)) = w4 at FS ⊢
          have ks0 : w4.cell? ⟨gs, 0, none⟩ = some (.int .i64 s.f0) := (blk_cell FS.out.2 0).trans rfl
          have HO := Aside0.mk (Kd.R_below HO.out FS.out.1)
          have HB := Aside0.mk (below_step HB.out FS.out.1)
          clear FS
          replace yt := pw_cell_below HB.out yt
          replace yv := pw_cell_below HB.out yv
          have W2 := Aside0.mk (show wrap64 ((j : Int) + 1) = ((j + 1 : Nat) : Int) from (wrap_id (by omega) (by have := DL.out.2; omega)).trans (by omega))
          cases h1 : (s.f0 == 0) with
          | false =>
            have H1 := Aside0.mk (N1.out (.inl h1))
            go_wp2_with fail
            go_roundg go2
            case measure => omega
            case rel => exact ⟨j + 1, congrArg (Value.int .i64) W2.out, ⟨by have := HJ.out; omega⟩, ⟨by rw [H1.out]; exact HO.out⟩, HB⟩
          | true =>
            cases h2 : (tv != 0) with
            | false =>
              have H1 := Aside0.mk (N1.out (.inr h2))
              go_wp2_with fail
              go_roundg go2
              case measure => omega
              case rel => exact ⟨j + 1, congrArg (Value.int .i64) W2.out, ⟨by have := HJ.out; omega⟩, ⟨by rw [H1.out]; exact HO.out⟩, HB⟩
            | true =>
              have H1 := Aside0.mk (N2.out h1 h2)
              go_wp2_with (at_builtin; refine Kd.R_append k138 (w0 := w2) w2.heap.size rfl (.tmp 45) (.tmp 49) 84 138 (.agg #[.int .i64 0, .int .i64 0]) 16 rfl Try.underlying84 info138 rfl (by decide) (by decide) u6 (gapTo rs tr i ++ gapRow ss t i j) ⟨(i : Int), (j : Int)⟩ [.int .i64 (i : Int), .int .i64 (j : Int)] (fun _ => True) (fun _ => False) rfl rfl (k138_mkM _ _ _ ⟨(i : Int), (j : Int)⟩) (fun k hk => hk.elim) (fun _ _ => trivial) HO.out HB.out HB.out.size (by have := HL.out; omega) ?_; intro vn wn hsn hbn hgn _; have HN := Aside0.mk hsn; have HBN := Aside0.mk hbn; clear hsn hbn hgn)
              go_roundg go2
              case measure => omega
              case rel => exact ⟨j + 1, congrArg (Value.int .i64) W2.out, ⟨by have := HJ.out; omega⟩, ⟨by rw [H1.out, ← List.append_assoc]; exact HN.out⟩, HBN⟩
        · have hjt' : decide ((j : Int) < (ss.length : Int)) = false := decide_eq_false (by omega)
          have hj : j = ss.length := by have := HJ.out; omega
          have W1 := Aside0.mk (show wrap64 ((i : Int) + 1) = ((i + 1 : Nat) : Int) from (wrap_id (by omega) (by have := I60.out; omega)).trans (by omega))
          have HJE := Aside0.mk hj
          clear hj
          go_wp2_with fail
          go_roundg go1
          case measure => omega
          case rel => exact ⟨i + 1, congrArg (Value.int .i64) W1.out, ⟨by have := HI.out; omega⟩, ⟨by rw [GS.out, ← HJE.out]; exact HO.out⟩, HB⟩
    · have hlt' : decide ((i : Int) < (rs.length : Int)) = false := decide_eq_false (by omega)
      have hi : i = rs.length := by have := HI.out; omega
      have HIE := Aside0.mk hi
      clear hi
      go_wp2_with fail
      go_ret
      exact ⟨_, rfl, by rw [HG.out, ← HIE.out]; exact Kd.R_lower HO.out B2.out.size, below_step B2.out HB.out⟩
end Go.Proofs.Ytpdnabhpkdchjaa.P
namespace Go.Proofs.Ytpdnabhpkdchjaa.Open
open Go.RowKit Go.Proofs.YtpdnabhpkdchjaaW.PrintWords Go.Proofs.YtpdnabhpkdchjaaW.PrintLast Go.Proofs.YtpdnabhpkdchjaaW.PrintMore
open Go.ChangeShapes Go.WideShapes Go.ChangeAt P
set_option maxRecDepth 100000
set_option linter.unusedVariables false
def kB : Kd {x : Int // 0 ≤ x ∧ x < 256} := Kd.iso (Kd.int .u8) Subtype.val
theorem wf_u8 {n : Int} (h : (Lit.int .u8 n).wf = true) : 0 ≤ n ∧ n < 256 := by
  have e1 : IntKind.u8.min = 0 := rfl
  have e2 : IntKind.u8.max = 255 := rfl
  simp [Lit.wf, e1, e2] at h
  omega
theorem oB : Opens Try.prog 5 kB := by
  intro H enc w base spare held fuel cs x h
  obtain ⟨n, rfl, _, hw⟩ := DataW.trod_int Try.underlying5 h
  exact ⟨⟨n, wf_u8 hw⟩, rfl⟩
theorem oBs : Opens Try.prog 34 (Kd.slice 5 kB) := opens_slice Try.underlying34 (by kernel_rfl) oB
theorem C_map {α β : Type} {d : Kd α} {f : β → α} {w : World} {A : Option Addr} {n : Nat} {xs : List β} (h : Kd.C (Kd.iso d f) w A n xs) : Kd.C d w A n (xs.map f) := by
  obtain ⟨h1, h2, h3⟩ := h
  refine ⟨by simpa using h1, h2, fun hn => ?_⟩
  obtain ⟨ad, e, hc⟩ := h3 hn
  refine ⟨ad, e, fun j p hp => ?_⟩
  rw [List.getElem?_map, Option.map_eq_some_iff] at hp
  obtain ⟨q, hq, rfl⟩ := hp
  exact hc j q hq
section
variable {H : Type} {enc : TypeId × Value → H} {W : World} {base b0 : Nat} {spare : Nat → Bool} {held : Bool} {v : Value} {x : DataW H} {ps : List MemPlace} {r : Reach}
theorem arg_bytes (hv : Value.okWide Try.prog W r b0 34 v) (h : DataW.Trod enc Try.prog W base spare held 34 v x ps) :
    ∃ A c l, v = .slice A l.length c ∧ Kd.C (Kd.int .u8) W A l.length l ∧ l.length ≤ c ∧ ∀ x ∈ l, 0 ≤ x ∧ x < 256 := by
  obtain ⟨A, c, l, e, h1, h2⟩ := arg_slice Try.underlying34 oBs hv h
  refine ⟨A, c, l.map Subtype.val, by rw [e, List.length_map], by rw [List.length_map]; exact C_map h1, by rw [List.length_map]; exact h2, fun x hx => ?_⟩
  obtain ⟨y, _, rfl⟩ := List.mem_map.1 hx
  exact y.2
end
end Go.Proofs.Ytpdnabhpkdchjaa.Open
namespace Go.Proofs.Ytpdnabhpkdchjaa.WalkFnSafe
open P Go.RowKit Go.Proofs.YtpdnabhpkdchjaaW.PrintWords Go.Proofs.YtpdnabhpkdchjaaW.PrintLast Go.Proofs.YtpdnabhpkdchjaaW.PrintMore
set_option linter.unusedVariables false
set_option linter.unusedSimpArgs false
set_option maxHeartbeats 8000000 in
set_option maxRecDepth 100000 in
theorem walk (A : Option Addr) (c : Nat) (code : List Int) (w : World) (hr : Kd.C (Kd.int .u8) w A code.length code) (hc : code.length ≤ c) (hby : ∀ x ∈ code, 0 ≤ x ∧ x < 256) :
    Calls Try.prog 14 #[.slice A code.length c] w fun e w' => e = .returned (.bool true) ∧ Below w.heap.size w w' := by
  by_cases hbig : 1048576 < code.length
  · have hb1 : decide ((1048576 : Int) < (code.length : Int)) = true := decide_eq_true (by omega)
    clear hbig
    go_enter Try.func14, Try.ntmps14
    go_wp2_with fail
    go_ret
    exact ⟨rfl, Below.refl _ _⟩
  have hb1 : decide ((1048576 : Int) < (code.length : Int)) = false := decide_eq_false (by omega)
  obtain ⟨n, l, c', n0, n1, hll, hlo, hcc, hdr⟩ := drawn_is hby true
  obtain ⟨hev, hlen⟩ := evDraw_ok (ho := true) hlo hcc (by decide)
  obtain ⟨es, hes⟩ : ∃ es, (evDraw code n l true c').out = es := ⟨_, rfl⟩
  have HEV := Aside0.mk hev
  have HES := Aside0.mk hes
  rw [hes] at hlen
  have hdr2 := hdr A c w hr
  rw [hes] at hdr2
  have HDR := Aside0.mk hdr2
  have HL := Aside0.mk hlo
  have HLEN := Aside0.mk hlen
  have HN := Aside0.mk (And.intro n0 n1)
  clear hbig hr hc hby hdr hdr2 hes hlo hcc hev hlen hll n0 n1
  have HON := Aside0.mk (show HonP n l es ∧ ∀ e ∈ es, eventOk n l e.f0 e.f1 e.f2 = true by rw [← HES.out]; exact ⟨(HEV.out.hon rfl).1, HEV.out.ok⟩)
  have H1 := Aside0.mk (honest_of HL.out (by have := HLEN.out; omega) HON.out.2 HON.out.1)
  have H2 := Aside0.mk (gaps_none HL.out (by have := HLEN.out; omega) HON.out.2 HON.out.1)
  have HD := Aside0.mk (gaps_dims n l es)
  have HRL := Aside0.mk (show (run n l es).length = es.length by rw [run, if_pos ⟨HL.out, by have := HLEN.out; omega⟩, runTo_length])
  have HSN := Aside0.mk (show ∀ i : Nat, i < (run n l es).length → (((rd_T48 (run n l es) (i : Int)).f1.f1.length : Int) = n) ∧ ∀ j : Nat, j < (rd_T48 (run n l es) (i : Int)).f1.f1.length → (rd_T50 (rd_T48 (run n l es) (i : Int)).f1.f1 (j : Int)).f0 = 0 → rd (rd_L12 (truth n l es) (i : Int)) (j : Int) = 0 from by
    have he : es.length ≤ 2000 := by have := HLEN.out; omega
    have hn := HN.out
    rw [run, if_pos ⟨HL.out, he⟩]
    intro i hi
    rw [runTo_length] at hi
    rw [rd_runTo n l es _ i hi, truth_rd HL.out he i hi, ← stAt_succ n l es i hi]
    have hl2 := (stAt_len n l es (i + 1)).1
    exact ⟨by rw [hl2]; omega, fun j hj hf => safe_free HL.out he HON.out.2 HON.out.1 i j hi (by omega) hf⟩)
  clear HEV HES HON
  go_enter Try.func14, Try.ntmps14
  go_upto_region 4 with (first | (go_at_call 27; refine HDR.out.mono ?_; rintro e w1 ⟨Al, cl, v2, rfl, ho1, ho2, hb⟩; obtain ⟨Ae, ce, rfl⟩ := Kd.R_slice ho2; have RL := Aside0.mk ho1; have RE := Aside0.mk ho2; have B1 := Aside0.mk hb; clear ho1 ho2 hb) | ((with_reducible refine gate_dst (N := 3) rfl ?_); refine box_event ?hg (N := 3) ?hd (cs := #[.int .i64 0, .slice none 0 0]) (t := 30) ?hr ?_; (case hd => rfl); (case hg => rfl); (case hr => first | (go_simp; done) | (go_simp; rfl)); intro gl el wl kl bl; have EL := Aside0.mk el; have KL := Aside0.mk kl; have BL := Aside0.mk bl; clear el kl bl; have kl0 : wl.cell? ⟨gl, 0, none⟩ = some (.int .i64 0) := (blk_cell KL.out 0).trans rfl; have zkl0 := blk_frozen KL.out 0; have kl1 : wl.cell? ⟨gl, 1, none⟩ = some (.slice none 0 0) := (blk_cell KL.out 1).trans rfl; have zkl1 := blk_frozen KL.out 1))
  have FX := Aside0.mk (show Below w1.heap.size w1 ((wl.setCell ⟨gl, 0, none⟩ (.int .i64 n)).setCell ⟨gl, 1, none⟩ (.slice Al l.length cl)) ∧ ((wl.setCell ⟨gl, 0, none⟩ (.int .i64 n)).setCell ⟨gl, 1, none⟩ (.slice Al l.length cl)).heap[gl]? = some (.cells #[.int .i64 n, .slice Al l.length cl] 30 (0, 0)) from ⟨below_set (j := 1) (below_set (j := 0) BL.out (Nat.le_of_eq EL.out.symm)) (Nat.le_of_eq EL.out.symm), blk_put (blk_put KL.out 0 (.int .i64 n) rfl) 1 (.slice Al l.length cl) rfl⟩)
  clear kl0 zkl0 kl1 zkl1 KL BL EL
  generalize ((wl.setCell ⟨gl, 0, none⟩ (.int .i64 n)).setCell ⟨gl, 1, none⟩ (.slice Al l.length cl)) = w2 at FX ⊢
  have RL := Aside0.mk (Kd.R_below RL.out FX.out.1)
  have RE := Aside0.mk (Kd.R_below RE.out FX.out.1)
  have B1 := Aside0.mk (below_step B1.out FX.out.1)
  have KL := Aside0.mk FX.out.2
  clear FX HDR
  have kl0 : w2.cell? ⟨gl, 0, none⟩ = some (.int .i64 n) := (blk_cell KL.out 0).trans rfl; have kl1 : w2.cell? ⟨gl, 1, none⟩ = some (.slice Al l.length cl) := (blk_cell KL.out 1).trans rfl
  go_upto_region 6 with (first | (go_at_call 51; refine (honest_is n _ _ l _ _ es _ (Kd.R_reads' RL.out).2.2 (Kd.R_reads' RL.out).2.1 (Kd.R_reads' RE.out).2.2 (Kd.R_reads' RE.out).2.1).mono ?_; rw [H1.out]; rintro e w3 ⟨rfl, hb⟩; have RL := Aside0.mk (Kd.R_below RL.out hb); have RE := Aside0.mk (Kd.R_below RE.out hb); have B1 := Aside0.mk (below_step B1.out hb); have KL := Aside0.mk (blk_below KL.out hb); clear hb kl0 kl1; have kl0 : w3.cell? ⟨gl, 0, none⟩ = some (.int .i64 n) := (blk_cell KL.out 0).trans rfl; have kl1 : w3.cell? ⟨gl, 1, none⟩ = some (.slice Al l.length cl) := (blk_cell KL.out 1).trans rfl) | (go_at_call 63; refine (gaps_is n _ _ l _ _ es _ (Kd.R_reads' RL.out).2.2 (Kd.R_reads' RL.out).2.1 (Kd.R_reads' RE.out).2.2 (Kd.R_reads' RE.out).2.1).mono ?_; rw [H2.out]; rintro e w4 ⟨v3, rfl, ho, hb⟩; obtain ⟨Ag, cg, rfl⟩ := Kd.R_slice ho; have RL := Aside0.mk (Kd.R_below RL.out hb); have RE := Aside0.mk (Kd.R_below RE.out hb); have B1 := Aside0.mk (below_step B1.out hb); have KL := Aside0.mk (blk_below KL.out hb); clear ho hb kl0 kl1; have kl0 : w4.cell? ⟨gl, 0, none⟩ = some (.int .i64 n) := (blk_cell KL.out 0).trans rfl; have kl1 : w4.cell? ⟨gl, 1, none⟩ = some (.slice Al l.length cl) := (blk_cell KL.out 1).trans rfl))
  go_upto_region 7 with (go_at_call 58; refine (struth_is (Kd.R_reads' RL.out).2.2 (Kd.R_reads' RL.out).2.1 (Kd.R_reads' RE.out).2.2 (Kd.R_reads' RE.out).2.1).mono ?_; rintro e w5 ⟨v5, rfl, hs, hb⟩; obtain ⟨A5, c5, rfl⟩ := Kd.S_slice hs; have RT := Aside0.mk (Kd.S_reads' hs).2.2; have RL := Aside0.mk (Kd.R_below RL.out hb); have RE := Aside0.mk (Kd.R_below RE.out hb); have B1 := Aside0.mk (below_step B1.out hb); have KL := Aside0.mk (blk_below KL.out hb); clear hs hb kl0 kl1; have kl0 : w5.cell? ⟨gl, 0, none⟩ = some (.int .i64 n) := (blk_cell KL.out 0).trans rfl; have kl1 : w5.cell? ⟨gl, 1, none⟩ = some (.slice Al l.length cl) := (blk_cell KL.out 1).trans rfl)
  have hne : (((run n l es).length : Int) != (es.length : Int)) = false := by rw [HRL.out]; exact bne_self_eq_false _
  go_upto_region 8 with (go_at_call 29; refine (run_is n _ _ l _ _ es _ (Kd.R_reads' RL.out).2.2 (Kd.R_reads' RL.out).2.1 (Kd.R_reads' RE.out).2.2 (Kd.R_reads' RE.out).2.1).mono ?_; rintro e w6 ⟨v6, rfl, hs, hb⟩; obtain ⟨A6, c6, rfl⟩ := Kd.S_slice hs; have RR := Aside0.mk (Kd.S_reads' hs).2.2; have RT := Aside0.mk (Kd.C_below RT.out hb); have RL := Aside0.mk (Kd.R_below RL.out hb); have RE := Aside0.mk (Kd.R_below RE.out hb); have B1 := Aside0.mk (below_step B1.out hb); have KL := Aside0.mk (blk_below KL.out hb); clear hs hb kl0 kl1)
  clear H1 H2 HRL RL RE
  generalize truth n l es = tr at *
  generalize run n l es = rs at *
  go_wp2_with fail
  go_loopg [43] rs.length (fun kq v43 w' => ∃ i : Nat, v43 = .int .i64 i ∧ Aside0 (i + kq = rs.length) ∧ Aside0 (Below w6.heap.size w6 w'))
  case atStart => exact ⟨0, rfl, ⟨by omega⟩, ⟨Below.refl _ _⟩⟩
  case round =>
    obtain ⟨i, rfl, HI, HB⟩ := hrel
    by_cases hlt : i < rs.length
    · cases gk with
      | zero => exact absurd HI.out (by omega)
      | succ go1 =>
      have hlt' : decide ((i : Int) < (rs.length : Int)) = true := decide_eq_true (by omega)
      have q0 : (0 : Int) ≤ (i : Int) := by omega
      have q1 : (i : Int) < (rs.length : Int) := by omega
      have q2 : (i : Int) < (tr.length : Int) := by have := HD.out.1; omega
      have I60 := Aside0.mk (show i < 2000 by have := HD.out.2.1; omega)
      obtain ⟨ad, A2, c2, A3, c3, e, x0, x1, x2, x3, l2, g2, l3, g3⟩ := at_T48 RR.out (i : Int) q0 q1
      cases e
      obtain ⟨adt, At, ct, e, yt, lt, gt⟩ := at_L12 RT.out (i : Int) q0 q2
      cases e
      rw [Int.toNat_natCast] at x0 x1 x2 x3 yt
      have hd := HD.out.2.2 i hlt
      have hsf := HSN.out i hlt
      generalize rd_T48 rs (i : Int) = x at x0 x1 x2 x3 l2 g2 l3 g3 hd hsf
      obtain ⟨xc, xb, ss, dd⟩ := x
      dsimp only at x0 x1 x2 x3 l2 g2 l3 g3 hd hsf
      generalize rd_L12 tr (i : Int) = t at yt lt gt hd hsf
      have GT := Aside0.mk gt
      have G2 := Aside0.mk g2
      have DL := Aside0.mk hd
      have YT := Aside0.mk yt
      have SF := Aside0.mk hsf.2
      have hne2 : ((ss.length : Int) != n) = false := bne_eq_false_iff_eq.mpr hsf.1
      replace x0 := pw_cell_below HB.out x0
      replace x1 := pw_cell_below HB.out x1
      replace x2 := pw_cell_below HB.out x2
      replace x3 := pw_cell_below HB.out x3
      clear gt g2 g3 hd yt l2 l3 lt hsf
      go_upto_region 13 with ((with_reducible refine gate_dst (N := 8) rfl ?_); refine box_event ?hg (N := 8) ?hd (cs := #[.int .i64 0, .bool false, .slice none 0 0, .slice none 0 0]) (t := 48) ?hr ?_; (case hd => rfl); (case hg => rfl); (case hr => first | (go_simp; done) | (go_simp; rfl)); intro gx ex wx kx bx; have EX := Aside0.mk ex; have KX := Aside0.mk kx; have BX := Aside0.mk bx; clear ex kx bx; have kx0 : wx.cell? ⟨gx, 0, none⟩ = some (.int .i64 0) := (blk_cell KX.out 0).trans rfl; have zkx0 := blk_frozen KX.out 0; have kx1 : wx.cell? ⟨gx, 1, none⟩ = some (.bool false) := (blk_cell KX.out 1).trans rfl; have zkx1 := blk_frozen KX.out 1; have kx2 : wx.cell? ⟨gx, 2, none⟩ = some (.slice none 0 0) := (blk_cell KX.out 2).trans rfl; have zkx2 := blk_frozen KX.out 2; have kx3 : wx.cell? ⟨gx, 3, none⟩ = some (.slice none 0 0) := (blk_cell KX.out 3).trans rfl; have zkx3 := blk_frozen KX.out 3)
      have FX := Aside0.mk (fill4 (y0 := .int .i64 xc) (y1 := .bool xb) (y2 := .slice A2 ss.length c2) (y3 := .slice A3 dd.length c3) KX.out BX.out (Nat.le_of_eq EX.out.symm))
      clear kx0 zkx0 kx1 zkx1 kx2 zkx2 kx3 zkx3 KX BX EX x0 x1 x2 x3
      generalize ((((wx.setCell ⟨gx, 0, none⟩ (.int .i64 xc)).setCell ⟨gx, 1, none⟩ (.bool xb)).setCell ⟨gx, 2, none⟩ (.slice A2 ss.length c2)).setCell ⟨gx, 3, none⟩ (.slice A3 dd.length c3)) = w3 at FX ⊢
      have kx2 : w3.cell? ⟨gx, 2, none⟩ = some (.slice A2 ss.length c2) := (blk_cell FX.out.2 2).trans rfl
      have HB := Aside0.mk (below_step HB.out FX.out.1)
      have kl0 : w3.cell? ⟨gl, 0, none⟩ = some (.int .i64 n) := (blk_cell (blk_below KL.out HB.out) 0).trans rfl
      clear FX
      go_wp2_with fail
      clear kx2 kl0
      go_loopg [59] ss.length (fun kq v59 w' => ∃ j : Nat, v59 = .int .i64 j ∧ Aside0 (j + kq = ss.length) ∧ Aside0 (Below w6.heap.size w6 w'))
      case atStart => exact ⟨0, rfl, ⟨by omega⟩, HB⟩
      case round =>
        clear HB
        obtain ⟨j, rfl, HJ, HB⟩ := hrel
        by_cases hjt : j < ss.length
        · cases gk with
          | zero => exact absurd HJ.out (by omega)
          | succ go2 =>
          have hjt' : decide ((j : Int) < (ss.length : Int)) = true := decide_eq_true (by omega)
          have r0 : (0 : Int) ≤ (j : Int) := by omega
          have r1 : (j : Int) < (ss.length : Int) := by omega
          have r2 : (j : Int) < (t.length : Int) := by have := DL.out.1; omega
          obtain ⟨ads, e, x0, x1, x2, x3, x4⟩ := at_T50 G2.out (j : Int) r0 r1
          cases e
          obtain ⟨ada, e, -⟩ := GT.out.2.2 (by omega)
          subst e
          have yv := Kd.foot_int GT.out (j : Int) r0 r2
          have yt := YT.out
          rw [Int.toNat_natCast] at x0 x1 x2 x3 x4 yv
          have N1 := SF.out j hjt
          generalize rd_T50 ss (j : Int) = s at x0 x1 x2 x3 x4 N1
          generalize rd t (j : Int) = tv at yv N1
          have N2 := Aside0.mk N1
          clear N1
          replace x0 := pw_cell_below HB.out x0
          replace x1 := pw_cell_below HB.out x1
          replace x2 := pw_cell_below HB.out x2
          replace x3 := pw_cell_below HB.out x3
          replace x4 := pw_cell_below HB.out x4
          go_upto_region 18 with ((with_reducible refine gate_dst (N := 10) rfl ?_); refine box_event ?hg (N := 10) ?hd (cs := #[.int .i64 0, .int .i64 0, .bool false, .bool false, .int .i64 0]) (t := 50) ?hr ?_; (case hd => rfl); (case hg => rfl); (case hr => first | (go_simp; done) | (go_simp; rfl)); intro gs es ws ks bs; have ES := Aside0.mk es; have KS := Aside0.mk ks; have BS := Aside0.mk bs; clear es ks bs; have ks0 : ws.cell? ⟨gs, 0, none⟩ = some (.int .i64 0) := (blk_cell KS.out 0).trans rfl; have zks0 := blk_frozen KS.out 0; have ks1 : ws.cell? ⟨gs, 1, none⟩ = some (.int .i64 0) := (blk_cell KS.out 1).trans rfl; have zks1 := blk_frozen KS.out 1; have ks2 : ws.cell? ⟨gs, 2, none⟩ = some (.bool false) := (blk_cell KS.out 2).trans rfl; have zks2 := blk_frozen KS.out 2; have ks3 : ws.cell? ⟨gs, 3, none⟩ = some (.bool false) := (blk_cell KS.out 3).trans rfl; have zks3 := blk_frozen KS.out 3; have ks4 : ws.cell? ⟨gs, 4, none⟩ = some (.int .i64 0) := (blk_cell KS.out 4).trans rfl; have zks4 := blk_frozen KS.out 4)
          have FS := Aside0.mk (fill5 (y0 := .int .i64 s.f0) (y1 := .int .i64 s.f1) (y2 := .bool s.f2) (y3 := .bool s.f3) (y4 := .int .i64 s.f4) KS.out BS.out (Nat.le_of_eq ES.out.symm))
          clear ks0 zks0 ks1 zks1 ks2 zks2 ks3 zks3 ks4 zks4 KS BS ES x0 x1 x2 x3 x4
          generalize (((((ws.setCell ⟨gs, 0, none⟩ (.int .i64 s.f0)).setCell ⟨gs, 1, none⟩ (.int .i64 s.f1)).setCell ⟨gs, 2, none⟩ (.bool s.f2)).setCell ⟨gs, 3, none⟩ (.bool s.f3)).setCell ⟨gs, 4, none⟩ (.int .i64 s.f4)) = w4 at FS ⊢
          have ks0 : w4.cell? ⟨gs, 0, none⟩ = some (.int .i64 s.f0) := (blk_cell FS.out.2 0).trans rfl
          have HB := Aside0.mk (below_step HB.out FS.out.1)
          clear FS
          replace yt := pw_cell_below HB.out yt
          replace yv := pw_cell_below HB.out yv
          have W2 := Aside0.mk (show wrap64 ((j : Int) + 1) = ((j + 1 : Nat) : Int) from (wrap_id (by omega) (by have := DL.out.2; omega)).trans (by omega))
          cases h1 : (s.f0 == 0) with
          | false =>
            go_wp2_with fail
            go_roundg go2
            case measure => omega
            case rel => exact ⟨j + 1, congrArg (Value.int .i64) W2.out, ⟨by have := HJ.out; omega⟩, HB⟩
          | true =>
            have h2 : (tv != 0) = false := by rw [N2.out (by simpa using h1)]; rfl
            go_wp2_with fail
            go_roundg go2
            case measure => omega
            case rel => exact ⟨j + 1, congrArg (Value.int .i64) W2.out, ⟨by have := HJ.out; omega⟩, HB⟩
        · have hjt' : decide ((j : Int) < (ss.length : Int)) = false := decide_eq_false (by omega)
          have W1 := Aside0.mk (show wrap64 ((i : Int) + 1) = ((i + 1 : Nat) : Int) from (wrap_id (by omega) (by have := I60.out; omega)).trans (by omega))
          go_wp2_with fail
          go_roundg go1
          case measure => omega
          case rel => exact ⟨i + 1, congrArg (Value.int .i64) W1.out, ⟨by have := HI.out; omega⟩, HB⟩
    · have hlt' : decide ((i : Int) < (rs.length : Int)) = false := decide_eq_false (by omega)
      go_wp2_with fail
      go_ret
      exact ⟨rfl, below_step B1.out HB.out⟩
end Go.Proofs.Ytpdnabhpkdchjaa.WalkFnSafe
namespace Go.Proofs.Ytpdnabhpkdchjaa.fnSafe
open Go.ChangeShapes Go.WideShapes Go.ChangeAt Go.RowKit Go.Proofs.Ytpdnabhpkdchjaa.Open Go.Proofs.Ytpdnabhpkdchjaa.P
set_option linter.unusedVariables false
set_option maxRecDepth 100000 in
theorem lifted (os : Os) (started : os.Started) (H : Type) (enc : TypeId × Value → H) :
    ReturnsInHanded {} Try.checked os 14 .any (Rows.fnSafeSpec.pre6 enc Try.prog Try.f14 Rows.fnSafeRow.domain false) (Rows.fnSafeSpec.post enc Try.prog Try.f14 false true false false) := by
  refine returnsInHanded_of_change_sized (C := Try.checked) Facts.own started (by kernel_rfl) Try.func14
    (ChangeSpec.witness6 (enc := enc) (C := Try.checked) false ⟨#[], #[.slice none 0 0], []⟩ 8 (by kernel_rfl) (by kernel_rfl) (by kernel_rfl) (by kernel_rfl)) ?_
  intro W base args ds gs before hval0 hW hcnd hsz0 _
  have hval : ∀ (j : Nat) t v, Try.f14.params[j]? = some t → args[j]? = some v → Value.okWide Try.prog W .any base t v := hval0
  have hW' := hW
  obtain ⟨p, q, hA0, hV, rfl, hfz, hnd⟩ := hW
  have hA : DataW.TrodAll enc Try.prog W 0 (fun _ => true) true Try.f14.params.toList args.toList ds p := hA0
  rw [Try.params14] at hA hval
  obtain ⟨v0, vs0, d0, ds0, p0, q0, hargs, rfl, rfl, h0, r0⟩ := trodAll_cons hA
  obtain ⟨rfl, rfl, rfl⟩ := trodAll_nil r0
  obtain rfl : args = #[v0] := by cases args; simp_all
  obtain ⟨rfl, rfl⟩ := trodVars_none hV
  have k0 := h0
  have lt0 : ∀ x ∈ p0, x.block < W.heap.size := by obtain ⟨m, hm⟩ := k0; exact DataW.trod_lt m _ _ _ hm
  obtain ⟨A0, c0, l0, rfl, hr0, hc0, hb0⟩ := arg_bytes (hval 0 34 v0 rfl rfl) h0
  clear hA0 hval0 hsz0
  refine (WalkFnSafe.walk A0 c0 l0 W hr0 hc0 hb0).mono fun e W' ⟨he, bel⟩ => ?_
  subst he
  exact ⟨_, rfl, _, _, _, [], _, [], hW', trodAll_mk1 (shut_bool Try.underlying4 _), (trodAll_cons_mk (Below.trod Facts.laidOut (by kernel_rfl) (of_decide_eq_true (by kernel_rfl)) k0 bel lt0) trodAll_mk0), rfl, bel.frame _, fun h => by cases h⟩
theorem k10 : (Rows.fnSafeRow.inPlace == Try.prog.inPlace 14) = true := by kernel_rfl
theorem k11 : (Rows.fnSafeRow.unfollowed == Try.prog.unfollowed 14) = true := by kernel_rfl
theorem k12 : (Rows.fnSafeRow.recurses == Try.prog.recurses 14) = true := by kernel_rfl
theorem k13 : (Rows.fnSafeRow.named == Try.prog.varsNamed 14) = true := by kernel_rfl
theorem over : Rows.fnSafeRow.holds Try.pinned (OpenSpec.ofChange Rows.fnSafeSpec) :=
  OpenClaim.holds_of_wide 14 Try.f14 rfl rfl rfl rfl rfl rfl rfl ⟨rfl, rfl, rfl, rfl, rfl⟩ rfl rfl rfl rfl rfl (by kernel_rfl) Try.func14
    (joined_of 14 Try.f14 Rows.fnSafeSpec Rows.fnSafeRow (by kernel_rfl) (by kernel_rfl) (by kernel_rfl) rfl rfl Facts.stopKnobs k10 k11 k12 k13 (by kernel_rfl) (by kernel_rfl) (by kernel_rfl) (by kernel_rfl) (by kernel_rfl) (by kernel_rfl) (by kernel_rfl) (by kernel_rfl) (by kernel_rfl) rfl rfl rfl rfl rfl rfl (by kernel_rfl) (by kernel_rfl) (by kernel_rfl))
    (of_decide_eq_true (by kernel_rfl)) (by unfold Func.isWrapper; rw [if_neg (by decide +kernel)]; exact ⟨rfl, rfl⟩)
    (fun os started H enc _ => lifted os started H enc)
theorem proved : Rows.FnSafeSaid := over
end Go.Proofs.Ytpdnabhpkdchjaa.fnSafe
namespace Go.Proofs.Ytpdnabhpkdchjaa
theorem fnSafe_holds : Rows.FnSafeSaid := fnSafe.proved
#print axioms fnSafe_holds
end Go.Proofs.Ytpdnabhpkdchjaa
