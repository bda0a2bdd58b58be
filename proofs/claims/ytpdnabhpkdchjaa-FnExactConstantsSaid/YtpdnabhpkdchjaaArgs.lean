/- The arguments of this seat's laws (layouts, states, events, posts, numbers), as values whose lists can be read; and how a row's closed facts are put together; there are no conditions. -/
import Derived.Test.YtpdnabhpkdchjaaOpen
namespace Go.Proofs.Ytpdnabhpkdchjaa.Open
open Go.RowKit Go.Proofs.YtpdnabhpkdchjaaW.PrintWords Go.Proofs.YtpdnabhpkdchjaaW.PrintLast Go.Proofs.YtpdnabhpkdchjaaW.PrintMore
open Go.ChangeShapes Go.WideShapes Go.ChangeAt P
set_option maxRecDepth 100000
set_option linter.unusedVariables false

theorem oInt : Opens Try.prog 3 (Kd.int .i64) := opens_int Try.underlying3
theorem oBool : Opens Try.prog 4 Kd.bool := opens_bool Try.underlying4
theorem oU8 : Opens Try.prog 5 (Kd.int .u8) := opens_int Try.underlying5
theorem o160 : Opens Try.prog 160 k160 :=
  opens_iso _ (fun a => ⟨a.1, a.2⟩) (fun _ => rfl) (opens_struct Try.underlying160 (by kernel_rfl) (opensF_cons rfl (by kernel_rfl) rfl oInt (opensF_one rfl (by kernel_rfl) oInt)))
theorem o54 : Opens Try.prog 54 k54 :=
  opens_iso _ (fun a => ⟨a.1, a.2.1, a.2.2⟩) (fun _ => rfl) (opens_struct Try.underlying54 (by kernel_rfl) (opensF_cons rfl (by kernel_rfl) rfl oInt (opensF_cons rfl (by kernel_rfl) rfl oInt (opensF_one rfl (by kernel_rfl) oInt))))
theorem o157 : Opens Try.prog 157 k157 :=
  opens_iso _ (fun a => ⟨a.1, a.2.1, a.2.2⟩) (fun _ => rfl) (opens_struct Try.underlying157 (by kernel_rfl) (opensF_cons rfl (by kernel_rfl) rfl oInt (opensF_cons rfl (by kernel_rfl) rfl oInt (opensF_one rfl (by kernel_rfl) oInt))))
theorem o169 : Opens Try.prog 169 k169 :=
  opens_iso _ (fun a => ⟨a.1, a.2.1, a.2.2.1, a.2.2.2.1, a.2.2.2.2⟩) (fun _ => rfl) (opens_struct Try.underlying169 (by kernel_rfl) (opensF_cons rfl (by kernel_rfl) rfl oInt (opensF_cons rfl (by kernel_rfl) rfl oInt (opensF_cons rfl (by kernel_rfl) rfl oBool (opensF_cons rfl (by kernel_rfl) rfl oBool (opensF_one rfl (by kernel_rfl) oInt))))))
theorem oCounters : Opens Try.prog 23 (Kd.slice 160 k160) := opens_slice Try.underlying23 (by kernel_rfl) o160
theorem oSections : Opens Try.prog 75 (Kd.slice 169 k169) := opens_slice Try.underlying75 (by kernel_rfl) o169
theorem oBools : Opens Try.prog 44 (Kd.slice 4 Kd.bool) := opens_slice Try.underlying44 (by kernel_rfl) oBool
theorem oEvents : Opens Try.prog 67 (Kd.slice 54 k54) := opens_slice Try.underlying67 (by kernel_rfl) o54
theorem oPosts : Opens Try.prog 101 (Kd.slice 157 k157) := opens_slice Try.underlying101 (by kernel_rfl) o157
theorem oInts : Opens Try.prog 59 (Kd.slice 3 (Kd.int .i64)) := opens_slice Try.underlying59 (by kernel_rfl) oInt
theorem oBytes : Opens Try.prog 34 (Kd.slice 5 (Kd.int .u8)) := opens_slice Try.underlying34 (by kernel_rfl) oU8
theorem oLayout : Opens Try.prog 25 (Kd.pair (Kd.int .i64) (Kd.slice 160 k160)) :=
  opens_struct Try.underlying25 (by kernel_rfl) (opensF_cons rfl (by kernel_rfl) rfl oInt (opensF_one rfl (by kernel_rfl) oCounters))
theorem oState : Opens Try.prog 77 (Kd.pair Kd.bool (Kd.pair (Kd.slice 169 k169) (Kd.slice 4 Kd.bool))) :=
  opens_struct Try.underlying77 (by kernel_rfl) (opensF_cons rfl (by kernel_rfl) rfl oBool (opensF_cons rfl (by kernel_rfl) rfl oSections (opensF_one rfl (by kernel_rfl) oBools)))

section
variable {H : Type} {enc : TypeId × Value → H} {W : World} {base b0 : Nat} {spare : Nat → Bool} {held : Bool} {v : Value} {x : DataW H} {ps : List MemPlace} {r : Reach}

theorem arg_layout (hv : Value.okWide Try.prog W r b0 25 v) (h : DataW.Trod enc Try.prog W base spare held 25 v x ps) :
    ∃ n A c l, v = .agg #[.int .i64 n, .slice A l.length c] ∧ Kd.C k160 W A l.length l ∧ l.length ≤ c := by
  obtain ⟨cs, rfl, _⟩ := okWide_struct Try.underlying25 hv
  obtain ⟨⟨n, l⟩, c0, c1, hcs, h0, A, c, h1, hl, hr⟩ := open_arg oLayout h
  have h0' : c0 = [.int .i64 n] := h0
  subst h0' h1
  refine ⟨n, A, c, l, ?_, hr, hl⟩
  have : cs.toList = [.int .i64 n, .slice A l.length c] := hcs
  rw [← Array.toArray_toList (xs := cs), this]
theorem arg_state (hv : Value.okWide Try.prog W r b0 77 v) (h : DataW.Trod enc Try.prog W base spare held 77 v x ps) :
    ∃ b A1 c1 l1 A2 c2 l2, v = .agg #[.bool b, .slice A1 l1.length c1, .slice A2 l2.length c2] ∧ Kd.C k169 W A1 l1.length l1 ∧ l1.length ≤ c1 ∧ Kd.C Kd.bool W A2 l2.length l2 ∧ l2.length ≤ c2 := by
  obtain ⟨cs, rfl, _⟩ := okWide_struct Try.underlying77 hv
  obtain ⟨⟨b, l1, l2⟩, d0, d1, hcs, h0, d2, d3, h1, ⟨A1, c1, h2, hl1, hr1⟩, A2, c2, h3, hl2, hr2⟩ := open_arg oState h
  have h0' : d0 = [.bool b] := h0
  subst h0' h2 h3 h1
  refine ⟨b, A1, c1, l1, A2, c2, l2, ?_, hr1, hl1, hr2, hl2⟩
  have : cs.toList = [.bool b, .slice A1 l1.length c1, .slice A2 l2.length c2] := hcs
  rw [← Array.toArray_toList (xs := cs), this]
theorem arg_event (hv : Value.okWide Try.prog W r b0 54 v) (h : DataW.Trod enc Try.prog W base spare held 54 v x ps) :
    ∃ a b c, v = .agg #[.int .i64 a, .int .i64 b, .int .i64 c] := by
  obtain ⟨cs, rfl, _⟩ := okWide_struct Try.underlying54 hv
  obtain ⟨e, h⟩ := open_arg o54 h
  have h2 := k54_open h
  refine ⟨e.f0, e.f1, e.f2, ?_⟩
  have : cs.toList = [.int .i64 e.f0, .int .i64 e.f1, .int .i64 e.f2] := h2
  rw [← Array.toArray_toList (xs := cs), this]
theorem arg_slice {α : Type} {d : Kd α} {t e : TypeId} (ht : Try.prog.underlying t = some (.slice e)) (hd : Opens Try.prog t (Kd.slice e d)) (hv : Value.okWide Try.prog W r b0 t v) (h : DataW.Trod enc Try.prog W base spare held t v x ps) :
    ∃ A c l, v = .slice A l.length c ∧ Kd.C d W A l.length l ∧ l.length ≤ c := by
  obtain ⟨a, len, cap, rfl⟩ := okWide_slice ht hv
  obtain ⟨l, A, c, h1, hl, hr⟩ := open_arg hd h
  have h1' : [Value.slice a len cap] = [.slice A l.length c] := h1
  injection h1' with h2 _
  injection h2 with h3 h4 h5
  subst h3 h4 h5
  exact ⟨_, _, l, rfl, hr, hl⟩
theorem arg_int (hv : Value.okWide Try.prog W r b0 3 v) (h : DataW.Trod enc Try.prog W base spare held 3 v x ps) : ∃ n, v = .int .i64 n ∧ (Lit.int .i64 n).wf = true := by
  obtain ⟨n, rfl, rfl, rfl, hw⟩ := open_int Try.underlying3 hv h
  exact ⟨n, rfl, hw⟩
end

/-- A row's closed facts, one by one. -/
theorem joined_of (f : FuncId) (fn : Func) (s : ChangeSpec) (c : OpenClaim) (k1 : c.wf (OpenSpec.ofChange s) = true) (k4 : fn.params.all (Try.prog.readableRec ·) = true) (k5 : namedTie Try.prog c.named s.vars = true)
    (k6 : (c.stops == []) = true) (k8 : (c.knobs == []) = true) (k9 : (Try.prog.stopKnobs == []) = true) (k10 : (c.inPlace == Try.prog.inPlace f) = true) (k11 : (c.unfollowed == Try.prog.unfollowed f) = true) (k12 : (c.recurses == Try.prog.recurses f) = true) (k13 : (c.named == Try.prog.varsNamed f) = true)
    (k14 : (c.maps == (fn.params.toList ++ s.plain.varTypes Try.prog).any (Try.prog.mapsRec ·)) = true) (k15 : (c.ifaces == (fn.params.toList ++ s.plain.varTypes Try.prog).any (Try.prog.ifacesRec ·)) = true) (k16 : (c.mapsOut == Try.prog.mapsAmong fn.resultTypes.toList) = true)
    (k17 : (c.loops == (fn.params.toList ++ s.plain.varTypes Try.prog).any (Try.prog.loopsFrom ·)) = true) (k17b : (c.wideKeys == (fn.params.toList ++ s.plain.varTypes Try.prog ++ fn.resultTypes.toList).any (Try.prog.wideKeysFrom ·)) = true)
    (k18 : s.vars.all (Try.prog.varReadable ·) = true) (k19 : fn.resultTypes.all (fun t => Try.prog.readableRec t && decide (t < Try.prog.types.size)) = true) (k20 : (c.ifacesOut == fn.resultTypes.toList.any (Try.prog.ifacesRec ·)) = true) (k21 : (c.loopsOut == fn.resultTypes.toList.any (Try.prog.loopsFrom ·)) = true)
    (k22 : c.plainKeys = true) (k23 : c.shortTexts.isNone = true) (k24 : c.lifted = false) (k25 : c.make = .cut)
    (k26a : c.domain.isEmpty = true) (k26b : c.kinds = []) (k27 : (c.pinned == c.pinnedBy) = true)
    (k28 : (c.veiled == (fn.params.toList ++ s.plain.varTypes Try.prog ++ fn.resultTypes.toList).any (Try.prog.veiledRec ·)) = true) (k29 : c.veiledFits Try.prog fn.params.toList (fn.params.toList ++ s.plain.varTypes Try.prog ++ fn.resultTypes.toList) = true) :
    joinedFacts Try.prog f fn s c = true := by
  have q1 := Facts.laidOut
  have q2 := Facts.mapsRowed
  have q3 := Facts.stops
  have q4 := Facts.plainKeys
  have q5 := Facts.stopsHeard
  have q6 := Facts.mayEnter
  have q7 := Facts.liftsFinal
  have q8 := Facts.make
  generalize Try.prog = P at *
  unfold joinedFacts
  rw [k22, q4, k24, q7, k25, q8, k1, q1, q2, k4, k5, k6, q3, k8, k9, k10, k11, k12, k13, k14, k15, k16, k17, k17b, k18, k19, k20, k21, k23, q5, q6, k26a, k26b, if_pos rfl, k27, k28, k29]
  rfl
end Go.Proofs.Ytpdnabhpkdchjaa.Open
