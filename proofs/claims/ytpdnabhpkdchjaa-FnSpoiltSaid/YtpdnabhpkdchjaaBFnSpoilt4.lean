/- The statement FnSpoilt holds of the given program, for every argument; there are no conditions. (Part 4 of 5.) -/
import Derived.Test.YtpdnabhpkdchjaaBFnSpoilt3
namespace Go.Proofs.Ytpdnabhpkdchjaa.P
open Go.RowKit Go.Proofs.YtpdnabhpkdchjaaW.PrintWords Go.Proofs.YtpdnabhpkdchjaaW.PrintLast Go.Proofs.YtpdnabhpkdchjaaW.PrintMore
attribute [local go_sem] max2_int min2_int max_two min_two max_three min_three max_four min_four
set_option linter.unusedVariables false
set_option linter.unusedSimpArgs false
def slices_Min_int_int.l0:Nat→List Int→Int→Int→Option (Int)
 | 0,_,_,_=>none
 | k+1,x0,x3,x4=>if x4<(x0.length:Int) then (if 0≤x4 then (slices_Min_int_int.l0 k x0 (mn x3 (rd x0 x4)) (wrap64 (x4+1))) else (none)) else (some x3)
def slices_Min_int_int.f (k:Nat) (l0:List Int):Option (Int):=if (l0.length:Int)<1 then (none) else (if 0<(l0.length:Int) then (slices_Min_int_int.l0 k l0 (rd l0 0) 1) else (none))
set_option maxHeartbeats 8000000 in
set_option maxRecDepth 100000 in
theorem slices_Min_int_int.calls (k:Nat) (A0:Option Addr) (c0:Nat) (l0:List Int) (r:Int) (w:World) (hr0:Kd.C (Kd.int .i64) w A0 l0.length l0) (hc0:l0.length≤c0) (h:slices_Min_int_int.f k l0=some r) :
  Calls Try.prog 106 #[.slice A0 l0.length c0] w fun e w'=>e=.returned (.int .i64 r)∧Below w.heap.size w w':=by
 have HR0:=Aside0.mk hr0
 have HC0:=Aside0.mk hc0
 clear hr0 hc0
 have HB:=Aside0.mk (Below.refl w.heap.size w)
 have H:(if (l0.length:Int)<1 then (none) else (if 0<(l0.length:Int) then (slices_Min_int_int.l0 k l0 (rd l0 0) 1) else (none)))=some r:=h
 clear h
 by_cases c2:(l0.length:Int)<1
 ·rw [if_pos c2] at H
  exact absurd H (by simp)
 rw [if_neg c2] at H
 have c2b0:decide ((l0.length:Int)<1)=false:=decide_eq_false c2
 have c2b1:decide (l0.length<1)=false:=decide_eq_false (by omega)
 clear c2
 by_cases c3:0<(l0.length:Int)
 ·rw [if_pos c3] at H
  have c3b0:decide (0<(l0.length:Int))=true:=decide_eq_true c3
  have c3b1:decide (0<l0.length)=true:=decide_eq_true (by omega)
  clear c3
  have H':=Aside0.mk H
  clear H
  have p635:0≤(0:Int):=(by omega)
  have q635:0<(l0.length:Int):=of_decide_eq_true (by first|(with_reducible assumption)|assumption)
  obtain ⟨ad635,e635,hx635_0⟩:=Kd.at_int HR0.out 0 p635 q635
  cases e635
  have qi635:(0<l0.length)=True:=eq_true (by omega)
  (try rw [show ((0:Int)).toNat=0 from rfl] at hx635_0)
  (try rw [Addr.add_zero'] at hx635_0)
  replace p635:=eq_true p635
  replace q635:=eq_true q635
  go_enter Try.func106,Try.ntmps106
  go_wp2
  go_loopg [3,4] k (fun kq v3 v4 w'=>∃ (x3_1:Int) (x4_1:Int),v3=.int .i64 x3_1∧v4=.int .i64 x4_1∧Aside0 (slices_Min_int_int.l0 kq l0 x3_1 x4_1=some r)∧Aside0 (kq≤k)∧Aside0 (Below w.heap.size w w'))
  case atStart=>exact ⟨(rd l0 0),(1),(by first|rfl|(simp;done)|(simp [*];done)),(by first|rfl|(simp;done)|(simp [*];done)),H',⟨Nat.le_refl _⟩,⟨by repeat (first|(with_reducible first|exact HB.out|apply below_alloc|apply pw_below_drewN|apply below_drew1)|exact HB.out)⟩⟩
  case round =>
   clear H'
   try clear c1
   try clear c2
   try clear c2b0
   try clear c2b1
   try clear p2
   try clear c3
   try clear c3b0
   try clear c3b1
   try clear hx635_0
   try clear p635
   try clear q635
   obtain ⟨x3_1,x4_1,rfl,rfl,HA,HK1,HB⟩:=hrel
   cases gk with
   | zero=>exact absurd HA.out (by simp [slices_Min_int_int.l0])
   | succ k1 =>
    have H:=HA.out
    clear HA
    simp only [slices_Min_int_int.l0] at H
    by_cases c4:x4_1<(l0.length:Int)
    ·rw [if_pos c4] at H
     have c4b0:decide (x4_1<(l0.length:Int))=true:=decide_eq_true c4
     clear c4
     by_cases c5:0≤x4_1
     ·rw [if_pos c5] at H
      have c5b0:decide (0≤x4_1)=true:=decide_eq_true c5
      clear c5
      obtain ⟨ji6,hji6⟩:∃ j_:Int,(mn x3_1 (rd l0 x4_1))=j_:=⟨_,rfl⟩
      replace H:(slices_Min_int_int.l0 k1 l0 ji6 (wrap64 (x4_1+1)))=some r:=by first|(rw [hji6] at H;exact H)|(simp only [hji6] at H ⊢;exact H)
      have hji6_:(if (rd l0 x4_1)<x3_1 then (rd l0 x4_1) else x3_1)=ji6:=hji6
      have H':=Aside0.mk H
      clear H
      have p636:0≤(x4_1:Int):=of_decide_eq_true (by first|(with_reducible assumption)|assumption)
      have q636:x4_1<(l0.length:Int):=of_decide_eq_true (by first|(with_reducible assumption)|assumption)
      obtain ⟨ad636,e636,hx636_0⟩:=Kd.at_int HR0.out x4_1 p636 q636
      obtain rfl:ad635=ad636:=(by injection e636)
      replace hx636_0:=(HB.out.cell (World.block_lt_of_cell? w _ hx636_0)).trans hx636_0
      replace p636:=eq_true p636
      replace q636:=eq_true q636
      go_wp2
      go_roundg k1
      case measure=>have:=HK1.out;omega
      case rel=>exact ⟨(ji6),(wrap64 (x4_1+1)),(by first|rfl|(simp;done)|(simp only [← hji6] <;> (first|rfl|simp))|(simp [*];done)),(by first|rfl|(simp;done)|(simp [*];done)),H',⟨by have:=HK1.out;omega⟩,⟨by repeat (first|(with_reducible first|exact HB.out|apply below_alloc|apply pw_below_drewN|apply below_drew1)|exact HB.out)⟩⟩
     rw [if_neg c5] at H
     exact absurd H (by simp)
    rw [if_neg c4] at H
    have c4b0:decide (x4_1<(l0.length:Int))=false:=decide_eq_false c4
    clear c4
    obtain rfl:=Option.some.inj H
    go_wp2
    go_ret
    exact ⟨by first|rfl|(simp [errW_none,errW_some] <;> rfl)|(simp [*,errW_none,errW_some] <;> rfl),by repeat (first|(with_reducible first|exact HB.out|apply below_alloc|apply pw_below_drewN|apply below_drew1)|exact HB.out)⟩
 rw [if_neg c3] at H
 exact absurd H (by simp)
end Go.Proofs.Ytpdnabhpkdchjaa.P
namespace Go.Proofs.Ytpdnabhpkdchjaa.P
open Go.RowKit Go.Proofs.YtpdnabhpkdchjaaW.PrintWords Go.Proofs.YtpdnabhpkdchjaaW.PrintLast
set_option linter.unusedVariables false
set_option linter.unusedSimpArgs false
def nonneg (row : List Int) : Bool := row.all fun x => decide (0 ≤ x)
def honestAt (n : Int) (l : List S88) (es : List S56) (k : Nat) : Bool :=
  eventOk n l (rd_T56 es k).f0 (rd_T56 es k).f1 (rd_T56 es k).f2 && !(decide ((rd_T56 es k).f0 = 5) && !(decide (rd (truthAt n l es (k + 1)) (rd_T56 es k).f1 = 0))) && nonneg (truthAt n l es (k + 1))
def honestFrom (n : Int) (l : List S88) (es : List S56) : Nat → Nat → Bool
  | 0, _ => true
  | d + 1, i => honestAt n l es i && honestFrom n l es d (i + 1)
def honest (n : Int) (l : List S88) (es : List S56) : Bool := decide (layoutOk n l = 0) && decide (es.length ≤ 2000) && honestFrom n l es es.length 0
section
variable {n : Int} {l : List S88} {es : List S56}
theorem truth_good (hl : layoutOk n l = 0) (he : es.length ≤ 2000) : truth n l es = (List.range es.length).map fun k => truthAt n l es (k + 1) := by rw [truth, if_pos ⟨hl, he⟩]
theorem truth_len (hl : layoutOk n l = 0) (he : es.length ≤ 2000) : (truth n l es).length = es.length := by rw [truth_good hl he]; simp
theorem truth_rd (hl : layoutOk n l = 0) (he : es.length ≤ 2000) (i : Nat) (hi : i < es.length) : rd_L12 (truth n l es) (i : Int) = truthAt n l es (i + 1) := by
  rw [truth_good hl he]
  simp [rd_L12, hi]
theorem eventOk_reset {op of dir : Int} (h : eventOk n l op of dir = true) (h5 : op = 5) : 0 ≤ of ∧ of < n := by
  subst h5
  unfold eventOk at h
  split at h
  · simp at h
    exact h.1
  · cases h
def minL : List Int → Int → Int
  | [], m => m
  | x :: xs, m => minL xs (mn m x)
theorem minL_neg : ∀ (xs : List Int) (m : Int), (minL xs m < 0) ↔ (m < 0 ∨ nonneg xs = false) := by
  intro xs
  induction xs with
  | nil => intro m; simp [minL, nonneg]
  | cons x xs ih =>
    intro m
    rw [minL, ih]
    simp only [nonneg, List.all_cons]
    have hm : mn m x < 0 ↔ (m < 0 ∨ x < 0) := by unfold mn; split <;> omega
    rw [hm]
    by_cases hx : x < 0
    · rw [decide_eq_false (show ¬ 0 ≤ x by omega)]; simp [hx]
    · rw [decide_eq_true (show 0 ≤ x by omega)]; simp [hx]
theorem min_l0 (row : List Int) (hrow : row.length < 9223372036854775807) (d : Nat) : ∀ (i : Nat) (m : Int), i + d = row.length → Ev (fun k => slices_Min_int_int.l0 k row m (i : Int)) (minL (row.drop i) m) := by
  induction d with
  | zero =>
    intro i m hi
    rw [List.drop_eq_nil_of_le (by omega)]
    refine Ev.step1 fun k => ?_
    simp only [slices_Min_int_int.l0]
    rw [if_neg (by omega)]
    rfl
  | succ d ih =>
    intro i m hi
    have hlt : i < row.length := by omega
    have hr : rd row (i : Int) = row[i] := by simp [rd, hlt]
    rw [List.drop_eq_getElem_cons hlt]
    refine Ev.step (fun k => ?_) (ih (i + 1) (mn m row[i]) (by omega))
    simp only [slices_Min_int_int.l0, hr, wrap_succ (show i < 9223372036854775807 by omega)]
    rw [if_pos (by omega), if_pos (by omega)]
theorem min_ev (row : List Int) (h0 : 0 < row.length) (hrow : row.length < 9223372036854775807) : Ev (fun k => slices_Min_int_int.f k row) (minL (row.drop 1) (rd row 0)) := by
  unfold slices_Min_int_int.f
  exact Ev.ite_neg (by omega) (Ev.ite_pos (by omega) (min_l0 row hrow (row.length - 1) 1 _ (by omega)))
theorem min_neg (row : List Int) (h0 : 0 < row.length) : (minL (row.drop 1) (rd row 0) < 0) ↔ nonneg row = false := by
  rw [minL_neg]
  cases row with
  | nil => simp at h0
  | cons x xs =>
    have : rd (x :: xs) 0 = x := by simp [rd]
    rw [this]
    simp only [List.drop_succ_cons, List.drop_zero, nonneg, List.all_cons]
    by_cases hx : x < 0
    · rw [decide_eq_false (show ¬ 0 ≤ x by omega)]; simp [hx]
    · rw [decide_eq_true (show 0 ≤ x by omega)]; simp [hx]
theorem truthAt_reset {j : Nat} (h : j < es.length) (h5 : (rd_T56 es j).f0 = 5) : truthAt n l es (j + 1) = truthAt n l es j := by
  rw [truthAt_succ h, tstep, if_neg]
  rw [rd56 es j h] at h5
  simp [isPass, h5]
theorem honestAt_not {j : Nat} (h : eventOk n l (rd_T56 es j).f0 (rd_T56 es j).f1 (rd_T56 es j).f2 = false) : honestAt n l es j = false := by unfold honestAt; rw [h]; rfl
theorem honestAt_zero {j : Nat} (h : eventOk n l (rd_T56 es j).f0 (rd_T56 es j).f1 (rd_T56 es j).f2 = true) (hz : rd (truthAt n l es (j + 1)) (rd_T56 es j).f1 = 0) : honestAt n l es j = nonneg (truthAt n l es (j + 1)) := by
  unfold honestAt; rw [h, decide_eq_true hz, Bool.not_true, Bool.and_false]; rfl
theorem honestAt_some {j : Nat} (h5 : (rd_T56 es j).f0 = 5) (hz : ¬ rd (truthAt n l es (j + 1)) (rd_T56 es j).f1 = 0) : honestAt n l es j = false := by
  unfold honestAt; rw [decide_eq_true h5, decide_eq_false hz, Bool.not_false, Bool.and_true, Bool.not_true, Bool.and_false]; rfl
theorem honestAt_other {j : Nat} (h : eventOk n l (rd_T56 es j).f0 (rd_T56 es j).f1 (rd_T56 es j).f2 = true) (h5 : ¬ (rd_T56 es j).f0 = 5) : honestAt n l es j = nonneg (truthAt n l es (j + 1)) := by
  unfold honestAt; rw [h, decide_eq_false h5, Bool.false_and]; rfl
end
end Go.Proofs.Ytpdnabhpkdchjaa.P
namespace Go.Proofs.Ytpdnabhpkdchjaa.P
open Go.RowKit Go.Proofs.YtpdnabhpkdchjaaW.PrintWords Go.Proofs.YtpdnabhpkdchjaaW.PrintLast Go.Proofs.YtpdnabhpkdchjaaW.PrintMore
attribute [local go_sem ↓] Go.wp_at_zero Go.wp_at_succ
set_option linter.unusedVariables false
set_option linter.unusedSimpArgs false
theorem ret_b {a b : Bool} (h : a = b) : Ending.returned (.bool a) = .returned (.bool b) := by rw [h]
theorem min_dec (row : List Int) (h0 : 0 < row.length) : (!(nonneg row)) = decide (minL (row.drop 1) (rd row 0) < 0) := by
  have hm := min_neg row h0
  cases hn : nonneg row with
  | false => rw [decide_eq_true (hm.2 hn)]; rfl
  | true => rw [decide_eq_false (fun c => by rw [hm.1 c] at hn; cases hn)]; rfl
theorem min_at {A : Option Addr} {c : Nat} {row : List Int} {w : World} {m : Int} (hm : minL (row.drop 1) (rd row 0) = m) (hr : Kd.C (Kd.int .i64) w A row.length row) (hc : row.length ≤ c) (h0 : 0 < row.length) (hl : row.length < 9223372036854775807) :
    Calls Try.prog 106 #[.slice A row.length c] w fun e w' => e = .returned (.int .i64 m) ∧ Below w.heap.size w w' := by
  obtain ⟨k, h⟩ := (min_ev row h0 hl).rounds
  rw [← hm]
  exact slices_Min_int_int.calls k A c row _ w hr hc h
def ho_T7 : Bool × List (List Nat × List Nat) := (true, [([], []), ([], []), ([0, 1], [0, 1]), ([2], [2]), ([3, 2], [3]), ([4], [4]), ([5, 4], [4, 5]), ([6, 4], [4, 6]), ([7, 4, 4], [4, 7]), ([8], [8]), ([9, 8], [8, 9]), ([8, 10, 4], [4, 8, 10]), ([11, 8, 4], [4, 11]), ([12], [12]), ([12], [12]), ([14, 12], [12, 14]), ([13, 15, 12], [12, 13, 15]), ([16, 12], [12, 16]), ([12], [12]), ([18, 12], [12, 18]), ([17, 19, 12], [12, 17, 19]), ([20, 12], [12, 20]), ([21, 12], [12, 21]), ([12, 22, 4], [4, 12, 22]), ([4, 23], [4, 23]), ([24, 12], [24]), ([25], [25]), ([25], [25]), ([26, 27, 25], [25, 26, 27]), ([28, 25], [25, 28]), ([29, 25, 25], [25, 29]), ([30, 25], [25, 30]), ([25, 31], [25, 31])])
def ho_B7 : List Nat := [0, 0, 3, 7, 15, 31, 63, 127, 255, 511, 1023, 2047, 4095, 8191, 8191, 24575, 65535, 131071, 8191, 270335, 1048575, 2097151, 4194303, 8388607, 16777215, 33554431, 67108863, 67108863, 268435455, 536870911, 1073741823, 2147483647, 4294967295]
theorem ho_tab7 : rtab .any (opsOf Try.f51 7) = ho_T7 := by kernel_rfl
theorem ho_bits7 : waitsOk ho_T7.2 ho_B7 = true := by kernel_rfl
structure HoSt (w0 w : World) (g : Nat) (lv : List Value) (v : Value) (t : List (List Int)) : Prop where
  hl : w.heap[g]? = some (.cells lv.toArray 30 (0, 0))
  HT : Kd.S (Kd.slice 3 (Kd.int .i64)) 59 w w0.heap.size (fun _ => True) v t
  hB : Below w0.heap.size w0 w
  gle : w0.heap.size ≤ g
theorem HoSt.up {w0 w w' : World} {g : Nat} {lv : List Value} {v : Value} {t : List (List Int)} (h : HoSt w0 w g lv v t) (hb : Below w.heap.size w w') : HoSt w0 w' g lv v t where
  hl := blk_below h.hl hb
  HT := Kd.S_below h.HT hb
  hB := below_step h.hB hb
  gle := h.gle
set_option maxHeartbeats 16000000 in
set_option maxRecDepth 100000 in
theorem honest_is (n : Int) (A : Option Addr) (c : Nat) (l : List S88) (A1 : Option Addr) (c1 : Nat) (es : List S56) (w : World) (hr : Kd.C k88 w A l.length l) (hc : l.length ≤ c) (hr1 : Kd.C k56 w A1 es.length es) (hc1 : es.length ≤ c1) :
    Calls Try.prog 51 #[.agg #[.int .i64 n, .slice A l.length c], .slice A1 es.length c1] w fun e w' => e = .returned (.bool (honest n l es)) ∧ Below w.heap.size w w' := by
  have HR := Aside0.mk hr
  have HC := Aside0.mk hc
  have HR1 := Aside0.mk hr1
  have HC1 := Aside0.mk hc1
  clear hr hc hr1 hc1
  by_cases hl : layoutOk n l = 0
  · by_cases he : es.length ≤ 2000
    · have b0 : (layoutOk n l != 0) = false := bne_eq_false_iff_eq.mpr hl
      have b1 : decide ((es.length : Int) > 2000) = false := decide_eq_false (by omega)
      have HL := Aside0.mk hl
      have HE := Aside0.mk he
      clear hl he
      go_enter Try.func51, Try.ntmps51
      go_wp2_with (first | ((with_reducible refine gate_dst (N := 2) rfl ?_); refine box_event ?hg (N := 2) ?hd (cs := #[.int .i64 n, .slice A l.length c]) (t := 30) ?hr ?_; (case hd => rfl); (case hg => rfl); (case hr => first | (go_simp; done) | (go_simp; rfl)); intro gl el wl kl bl; have hcz0 := (blk_cell kl 0).trans (show (#[Value.int .i64 n, .slice A l.length c])[0]? = _ from rfl); have hcz1 := (blk_cell kl 1).trans (show (#[Value.int .i64 n, .slice A l.length c])[1]? = _ from rfl); have KL := Aside0.mk kl; have BL := Aside0.mk bl; have GL := Aside0.mk (show w.heap.size ≤ gl by rw [el]; exact Nat.le_refl _); clear kl bl el) | (go_at_call 25; refine (lay_is (Kd.C_below HR.out BL.out) HC.out).mono ?_; rintro e w1 ⟨rfl, hb⟩; have KL1 := Aside0.mk (blk_below KL.out hb); have BL1 := Aside0.mk (below_step BL.out hb); clear hb; have hc10 := (blk_cell KL1.out 0).trans (show (#[Value.int .i64 n, .slice A l.length c])[0]? = _ from rfl); have hc11 := (blk_cell KL1.out 1).trans (show (#[Value.int .i64 n, .slice A l.length c])[1]? = _ from rfl)) | (go_at_call 54; refine (truth_is (Kd.C_below HR.out BL1.out) HC.out (Kd.C_below HR1.out BL1.out) HC1.out).mono ?_; rintro e w2 ⟨vt, rfl, ht, hb⟩; have ST := Aside0.mk (show HoSt w w2 gl _ vt _ from ⟨blk_below KL1.out hb, Kd.S_lower ht BL1.out.size, below_step BL1.out hb, GL.out⟩); clear hb ht))
      clear hcz0 hcz1 hc10 hc11 KL BL KL1 BL1
      go_loopg [21] es.length (fun kq v21 w' => ∃ j : Nat, v21 = .int .i64 j ∧ Aside0 (j + kq = es.length) ∧ Aside0 (honestFrom n l es es.length 0 = honestFrom n l es kq j) ∧ Aside0 (HoSt w w' gl [.int .i64 n, .slice A l.length c] vt (truth n l es)))
      case atStart => exact ⟨0, rfl, ⟨by omega⟩, ⟨rfl⟩, ST⟩
      case round =>
        clear ST
        obtain ⟨j, rfl, HJ, HF, ST⟩ := hrel
        by_cases hlt : j < es.length
        · cases gk with
          | zero => exact absurd HJ.out (by omega)
          | succ gk =>
          have hlt' : decide ((j : Int) < (es.length : Int)) = true := decide_eq_true (by omega)
          have q0 : (0 : Int) ≤ (j : Int) := by omega
          have q1 : (j : Int) < (es.length : Int) := by omega
          have hn := lay_n HL.out
          have htl := truth_len HL.out HE.out
          obtain ⟨ad, e, x0, x1, x2⟩ := at_T56 HR1.out (j : Int) q0 q1
          subst e
          replace x0 := pw_cell_below ST.out.hB x0
          replace x1 := pw_cell_below ST.out.hB x1
          replace x2 := pw_cell_below ST.out.hB x2
          obtain ⟨At, ct, et⟩ := Kd.S_slice ST.out.HT
          subst et
          obtain ⟨adt, Ar, cr, e, y0, lr, Cr⟩ := at_L12 (Kd.S_reads' ST.out.HT).2.2 (j : Int) q0 (by omega)
          subst e
          rw [truth_rd HL.out HE.out j hlt] at y0 lr Cr
          rw [Int.toNat_natCast] at x0 x1 x2 y0
          have CR := Aside0.mk Cr
          have LR := Aside0.mk lr
          have HN := Aside0.mk hn
          have HTL := Aside0.mk htl
          clear Cr lr hn htl
          generalize hx : rd_T56 es (j : Int) = x at x0 x1 x2
          have HX := Aside0.mk hx
          clear hx
          go_upto_region 7 with (first | ((with_reducible refine gate_dst (N := 7) rfl ?_); refine box_event ?hg (N := 7) ?hd (cs := #[.int .i64 0, .int .i64 0, .int .i64 0]) (t := 56) ?hr ?_; (case hd => rfl); (case hg => rfl); (case hr => first | (go_simp; done) | (go_simp; rfl)); intro ge ee we ke be; have KE := Aside0.mk ke; have EE := Aside0.mk ee; have z0 := blk_frozen ke 0; have z1 := blk_frozen ke 1; have z2 := blk_frozen ke 2; have c0_ := (blk_cell ke 0).trans (show (#[Value.int .i64 0, .int .i64 0, .int .i64 0])[0]? = _ from rfl); have c1_ := (blk_cell ke 1).trans (show (#[Value.int .i64 0, .int .i64 0, .int .i64 0])[1]? = _ from rfl); have c2_ := (blk_cell ke 2).trans (show (#[Value.int .i64 0, .int .i64 0, .int .i64 0])[2]? = _ from rfl); have SE := Aside0.mk (ST.out.up be); have BE := Aside0.mk be; clear be ke ee))
          have KX := Aside0.mk (blk_put (blk_put (blk_put KE.out 0 (.int .i64 x.f0) rfl) 1 (.int .i64 x.f1) rfl) 2 (.int .i64 x.f2) rfl)
          have BX := Aside0.mk (below_set (v := .int .i64 x.f2) (j := 2) (below_set (v := .int .i64 x.f1) (j := 1) (below_set (v := .int .i64 x.f0) (j := 0) BE.out (Nat.le_of_eq EE.out.symm)) (Nat.le_of_eq EE.out.symm)) (Nat.le_of_eq EE.out.symm))
          clear KE BE SE z0 z1 z2 c0_ c1_ c2_
          generalize (((we.setCell ⟨ge, 0, none⟩ (.int .i64 x.f0)).setCell ⟨ge, 1, none⟩ (.int .i64 x.f1)).setCell ⟨ge, 2, none⟩ (.int .i64 x.f2)) = w8 at KX BX ⊢
          go_cut [58] from 22 to 59 (fun v wx => v = .bool (!(honestAt n l es j)) ∧ Aside0 (Below wr.heap.size wr wx))
          case first =>
            have hcl0 : w8.cell? ⟨gl, 0, none⟩ = some (.int .i64 n) := (blk_cell (blk_below ST.out.hl BX.out) 0).trans rfl
            have hcl1 : w8.cell? ⟨gl, 1, none⟩ = some (.slice A l.length c) := (blk_cell (blk_below ST.out.hl BX.out) 1).trans rfl
            have hce0 : w8.cell? ⟨ge, 0, none⟩ = some (.int .i64 x.f0) := (blk_cell KX.out 0).trans rfl
            have hce1 : w8.cell? ⟨ge, 1, none⟩ = some (.int .i64 x.f1) := (blk_cell KX.out 1).trans rfl
            have hce2 : w8.cell? ⟨ge, 2, none⟩ = some (.int .i64 x.f2) := (blk_cell KX.out 2).trans rfl
            have hcy : w8.cell? (adt.add j) = some (.slice Ar (truthAt n l es (j + 1)).length cr) := pw_cell_below BX.out y0
            have BD := Aside0.mk (below_drew1 (below_step ST.out.hB BX.out))
            have BR := Aside0.mk (below_drew1 BX.out)
            clear x0 x1 x2 y0
            cases hok : eventOk n l x.f0 x.f1 x.f2 with
            | false =>
              have HO := Aside0.mk hok
              have HV := Aside0.mk (show (!(honestAt n l es j)) = true by rw [honestAt_not (by rw [HX.out]; exact HO.out)]; rfl)
              clear hok
              refine start_ (n := 33) (S := fun w' => w'.cell? ⟨gl, 0, none⟩ = some (.int .i64 n) ∧ w'.cell? ⟨gl, 1, none⟩ = some (.slice A l.length c) ∧ w'.cell? ⟨ge, 0, none⟩ = some (.int .i64 x.f0) ∧ w'.cell? ⟨ge, 1, none⟩ = some (.int .i64 x.f1) ∧ w'.cell? ⟨ge, 2, none⟩ = some (.int .i64 x.f2) ∧ w'.cell? (adt.add j) = some (.slice Ar (truthAt n l es (j + 1)).length cr)) (ds := []) #[false, false, false, false, false, false, false, false, false, false, false, false, false, false, false, false, false, false, false, false, false, false, false, false, false, false, false, false, false, false, false, false, false] (by kernel_rfl) rfl rfl ⟨hcl0, hcl1, hce0, hce1, hce2, hcy⟩ (fun hHeld => ?_); refine with_tabW ho_tab7 ho_bits7 (fun HT_ HW_ => ?_)
              refine take_ (i := 0) (N := some 26) (v := ?_) (a' := ?_) #[true, false, false, false, false, false, false, false, false, false, false, false, false, false, false, false, false, false, false, false, false, false, false, false, false, false, false, false, false, false, false, false, false] rfl rfl (take_ofW HT_.out HW_.out (by kernel_rfl)) (fun _ _ _ h => h) (Or.inl ⟨by rfl, ?_⟩) hHeld ?_ ?_
              rotate_left
              · rintro w' ⟨s0, s1, s2, s3, s4, s5⟩
                go_simp
                with_reducible rfl
              rotate_left
              · simp only [Act.put, List.setIfInBounds_toArray, List.set_cons_zero, List.set_cons_succ, i64_w, i32_w]
                rfl
              refine take_ (i := 1) (N := some 27) (v := ?_) (a' := ?_) #[true, true, false, false, false, false, false, false, false, false, false, false, false, false, false, false, false, false, false, false, false, false, false, false, false, false, false, false, false, false, false, false, false] rfl rfl (take_ofW HT_.out HW_.out (by kernel_rfl)) (fun _ _ _ h => h) (Or.inl ⟨by rfl, ?_⟩) hHeld ?_ ?_
              rotate_left
              · rintro w' ⟨s0, s1, s2, s3, s4, s5⟩
                go_simp
                with_reducible rfl
              rotate_left
              · simp only [Act.put, List.setIfInBounds_toArray, List.set_cons_zero, List.set_cons_succ, i64_w, i32_w]
                rfl
              refine one_ (i := 2) (N := some 28) #[true, true, true, false, false, false, false, false, false, false, false, false, false, false, false, false, false, false, false, false, false, false, false, false, false, false, false, false, false, false, false, false, false] rfl rfl (one_of HT_.out (by kernel_rfl)) (by decide) (fun K hK => ?_)
              refine goes_ Try.func36 (by kernel_rfl) rfl #[.agg #[.int .i64 n, .slice A l.length c], .agg #[.int .i64 x.f0, .int .i64 x.f1, .int .i64 x.f2]] (by rfl) rfl rfl (by (try simp only [List.map_toArray, List.map_cons, List.map_nil]); first | done | rfl | (simp only [List.length_drop, List.length_take]; rfl)) ?_
              with_reducible refine (ev_at x.f0 x.f1 x.f2 HO.out (Kd.C_below HR.out BD.out) HC.out).mono ?_; rintro e w9 ⟨rfl, hb⟩
              refine ⟨_, rfl, ?_⟩
              have BZ := Aside0.mk (below_step BR.out hb)
              refine hK.out _ _ ⟨pw_cell_below hb hHeld.1, pw_cell_below hb hHeld.2.1, pw_cell_below hb hHeld.2.2.1, pw_cell_below hb hHeld.2.2.2.1, pw_cell_below hb hHeld.2.2.2.2.1, pw_cell_below hb hHeld.2.2.2.2.2⟩ (fun hHeld => ?_)
              clear hK K
              refine norm_ (a' := ?_) ?_ ?_
              rotate_left
              · show Act.put _ (some 28) _ = _
                simp only [Act.put, List.setIfInBounds_toArray, List.set_cons_zero, List.set_cons_succ, i64_w, i32_w]
                rfl
              refine pure_ (i := 3) (N := some 29) (v := ?_) (a' := ?_) #[true, true, true, true, false, false, false, false, false, false, false, false, false, false, false, false, false, false, false, false, false, false, false, false, false, false, false, false, false, false, false, false, false] rfl rfl (any_of HT_.out (by kernel_rfl)) (fun _ _ _ h => h) (Or.inl ⟨by rfl, ?_⟩) ?_ ?_
              rotate_left
              · intro w'
                go_simp
                with_reducible rfl
              rotate_left
              · simp only [Act.put, List.setIfInBounds_toArray, List.set_cons_zero, List.set_cons_succ, i64_w, i32_w]
                rfl
              refine pure_ (i := 4) (N := some 30) (v := ?_) (a' := ?_) #[true, true, true, true, true, false, false, false, false, false, false, false, false, false, false, false, false, false, false, false, false, false, false, false, false, false, false, false, false, false, false, false, false] rfl rfl (any_of HT_.out (by kernel_rfl)) (fun _ _ _ h => h) (Or.inl ⟨by rfl, ?_⟩) ?_ ?_
              rotate_left
              · intro w'
                go_simp
                with_reducible rfl
              rotate_left
              · simp only [Act.put, List.setIfInBounds_toArray, List.set_cons_zero, List.set_cons_succ, i64_w, i32_w]
                rfl
              refine pure_ (i := 5) (N := some 31) (v := undef) (a' := ?_) #[true, true, true, true, true, true, false, false, false, false, false, false, false, false, false, false, false, false, false, false, false, false, false, false, false, false, false, false, false, false, false, false, false] rfl rfl (any_of HT_.out (by kernel_rfl)) (fun _ _ _ h => h) (Or.inr ⟨by rfl, rfl⟩) ?_ ?_
              rotate_left
              · simp only [Act.put, List.setIfInBounds_toArray, List.set_cons_zero, List.set_cons_succ, i64_w, i32_w]
                rfl
              refine pure_ (i := 6) (N := some 32) (v := undef) (a' := ?_) #[true, true, true, true, true, true, true, false, false, false, false, false, false, false, false, false, false, false, false, false, false, false, false, false, false, false, false, false, false, false, false, false, false] rfl rfl (any_of HT_.out (by kernel_rfl)) (fun _ _ _ h => h) (Or.inr ⟨by rfl, rfl⟩) ?_ ?_
              rotate_left
              · simp only [Act.put, List.setIfInBounds_toArray, List.set_cons_zero, List.set_cons_succ, i64_w, i32_w]
                rfl
              refine pure_ (i := 7) (N := some 33) (v := undef) (a' := ?_) #[true, true, true, true, true, true, true, true, false, false, false, false, false, false, false, false, false, false, false, false, false, false, false, false, false, false, false, false, false, false, false, false, false] rfl rfl (any_of HT_.out (by kernel_rfl)) (fun _ _ _ h => h) (Or.inr ⟨by rfl, rfl⟩) ?_ ?_
              rotate_left
              · simp only [Act.put, List.setIfInBounds_toArray, List.set_cons_zero, List.set_cons_succ, i64_w, i32_w]
                rfl
              refine pure_ (i := 8) (N := some 34) (v := undef) (a' := ?_) #[true, true, true, true, true, true, true, true, true, false, false, false, false, false, false, false, false, false, false, false, false, false, false, false, false, false, false, false, false, false, false, false, false] rfl rfl (any_of HT_.out (by kernel_rfl)) (fun _ _ _ h => h) (Or.inr ⟨by rfl, rfl⟩) ?_ ?_
              rotate_left
              · simp only [Act.put, List.setIfInBounds_toArray, List.set_cons_zero, List.set_cons_succ, i64_w, i32_w]
                rfl
              refine pure_ (i := 9) (N := some 35) (v := undef) (a' := ?_) #[true, true, true, true, true, true, true, true, true, true, false, false, false, false, false, false, false, false, false, false, false, false, false, false, false, false, false, false, false, false, false, false, false] rfl rfl (any_of HT_.out (by kernel_rfl)) (fun _ _ _ h => h) (Or.inr ⟨by rfl, rfl⟩) ?_ ?_
              rotate_left
              · simp only [Act.put, List.setIfInBounds_toArray, List.set_cons_zero, List.set_cons_succ, i64_w, i32_w]
                rfl
              refine pure_ (i := 10) (N := some 36) (v := undef) (a' := ?_) #[true, true, true, true, true, true, true, true, true, true, true, false, false, false, false, false, false, false, false, false, false, false, false, false, false, false, false, false, false, false, false, false, false] rfl rfl (any_of HT_.out (by kernel_rfl)) (fun _ _ _ h => h) (Or.inr ⟨by rfl, rfl⟩) ?_ ?_
              rotate_left
              · simp only [Act.put, List.setIfInBounds_toArray, List.set_cons_zero, List.set_cons_succ, i64_w, i32_w]
                rfl
              refine pure_ (i := 11) (N := some 37) (v := undef) (a' := ?_) #[true, true, true, true, true, true, true, true, true, true, true, true, false, false, false, false, false, false, false, false, false, false, false, false, false, false, false, false, false, false, false, false, false] rfl rfl (any_of HT_.out (by kernel_rfl)) (fun _ _ _ h => h) (Or.inr ⟨by rfl, rfl⟩) ?_ ?_
              rotate_left
              · simp only [Act.put, List.setIfInBounds_toArray, List.set_cons_zero, List.set_cons_succ, i64_w, i32_w]
                rfl
              refine pure_ (i := 12) (N := some 38) (v := undef) (a' := ?_) #[true, true, true, true, true, true, true, true, true, true, true, true, true, false, false, false, false, false, false, false, false, false, false, false, false, false, false, false, false, false, false, false, false] rfl rfl (any_of HT_.out (by kernel_rfl)) (fun _ _ _ h => h) (Or.inr ⟨by rfl, rfl⟩) ?_ ?_
              rotate_left
              · simp only [Act.put, List.setIfInBounds_toArray, List.set_cons_zero, List.set_cons_succ, i64_w, i32_w]
                rfl
              refine pure_ (i := 13) (N := some 39) (v := undef) (a' := ?_) #[true, true, true, true, true, true, true, true, true, true, true, true, true, true, false, false, false, false, false, false, false, false, false, false, false, false, false, false, false, false, false, false, false] rfl rfl (any_of HT_.out (by kernel_rfl)) (fun _ _ _ h => h) (Or.inr ⟨by rfl, rfl⟩) ?_ ?_
              rotate_left
              · simp only [Act.put, List.setIfInBounds_toArray, List.set_cons_zero, List.set_cons_succ, i64_w, i32_w]
                rfl
              refine pure_ (i := 14) (N := some 40) (v := undef) (a' := ?_) #[true, true, true, true, true, true, true, true, true, true, true, true, true, true, true, false, false, false, false, false, false, false, false, false, false, false, false, false, false, false, false, false, false] rfl rfl (any_of HT_.out (by kernel_rfl)) (fun _ _ _ h => h) (Or.inr ⟨by rfl, rfl⟩) ?_ ?_
              rotate_left
              · simp only [Act.put, List.setIfInBounds_toArray, List.set_cons_zero, List.set_cons_succ, i64_w, i32_w]
                rfl
              refine pure_ (i := 15) (N := some 41) (v := undef) (a' := ?_) #[true, true, true, true, true, true, true, true, true, true, true, true, true, true, true, true, false, false, false, false, false, false, false, false, false, false, false, false, false, false, false, false, false] rfl rfl (any_of HT_.out (by kernel_rfl)) (fun _ _ _ h => h) (Or.inr ⟨by rfl, rfl⟩) ?_ ?_
              rotate_left
              · simp only [Act.put, List.setIfInBounds_toArray, List.set_cons_zero, List.set_cons_succ, i64_w, i32_w]
                rfl
              refine pure_ (i := 16) (N := some 42) (v := undef) (a' := ?_) #[true, true, true, true, true, true, true, true, true, true, true, true, true, true, true, true, true, false, false, false, false, false, false, false, false, false, false, false, false, false, false, false, false] rfl rfl (any_of HT_.out (by kernel_rfl)) (fun _ _ _ h => h) (Or.inr ⟨by rfl, rfl⟩) ?_ ?_
              rotate_left
              · simp only [Act.put, List.setIfInBounds_toArray, List.set_cons_zero, List.set_cons_succ, i64_w, i32_w]
                rfl
              refine pure_ (i := 17) (N := some 43) (v := undef) (a' := ?_) #[true, true, true, true, true, true, true, true, true, true, true, true, true, true, true, true, true, true, false, false, false, false, false, false, false, false, false, false, false, false, false, false, false] rfl rfl (any_of HT_.out (by kernel_rfl)) (fun _ _ _ h => h) (Or.inr ⟨by rfl, rfl⟩) ?_ ?_
              rotate_left
              · simp only [Act.put, List.setIfInBounds_toArray, List.set_cons_zero, List.set_cons_succ, i64_w, i32_w]
                rfl
              refine pure_ (i := 18) (N := some 44) (v := undef) (a' := ?_) #[true, true, true, true, true, true, true, true, true, true, true, true, true, true, true, true, true, true, true, false, false, false, false, false, false, false, false, false, false, false, false, false, false] rfl rfl (any_of HT_.out (by kernel_rfl)) (fun _ _ _ h => h) (Or.inr ⟨by rfl, rfl⟩) ?_ ?_
              rotate_left
              · simp only [Act.put, List.setIfInBounds_toArray, List.set_cons_zero, List.set_cons_succ, i64_w, i32_w]
                rfl
              refine pure_ (i := 19) (N := some 45) (v := undef) (a' := ?_) #[true, true, true, true, true, true, true, true, true, true, true, true, true, true, true, true, true, true, true, true, false, false, false, false, false, false, false, false, false, false, false, false, false] rfl rfl (any_of HT_.out (by kernel_rfl)) (fun _ _ _ h => h) (Or.inr ⟨by rfl, rfl⟩) ?_ ?_
              rotate_left
              · simp only [Act.put, List.setIfInBounds_toArray, List.set_cons_zero, List.set_cons_succ, i64_w, i32_w]
                rfl
              refine pure_ (i := 20) (N := some 46) (v := undef) (a' := ?_) #[true, true, true, true, true, true, true, true, true, true, true, true, true, true, true, true, true, true, true, true, true, false, false, false, false, false, false, false, false, false, false, false, false] rfl rfl (any_of HT_.out (by kernel_rfl)) (fun _ _ _ h => h) (Or.inr ⟨by rfl, rfl⟩) ?_ ?_
              rotate_left
              · simp only [Act.put, List.setIfInBounds_toArray, List.set_cons_zero, List.set_cons_succ, i64_w, i32_w]
                rfl
              refine pure_ (i := 21) (N := some 47) (v := undef) (a' := ?_) #[true, true, true, true, true, true, true, true, true, true, true, true, true, true, true, true, true, true, true, true, true, true, false, false, false, false, false, false, false, false, false, false, false] rfl rfl (any_of HT_.out (by kernel_rfl)) (fun _ _ _ h => h) (Or.inr ⟨by rfl, rfl⟩) ?_ ?_
              rotate_left
              · simp only [Act.put, List.setIfInBounds_toArray, List.set_cons_zero, List.set_cons_succ, i64_w, i32_w]
                rfl
              refine pure_ (i := 22) (N := some 48) (v := undef) (a' := ?_) #[true, true, true, true, true, true, true, true, true, true, true, true, true, true, true, true, true, true, true, true, true, true, true, false, false, false, false, false, false, false, false, false, false] rfl rfl (any_of HT_.out (by kernel_rfl)) (fun _ _ _ h => h) (Or.inr ⟨by rfl, rfl⟩) ?_ ?_
              rotate_left
              · simp only [Act.put, List.setIfInBounds_toArray, List.set_cons_zero, List.set_cons_succ, i64_w, i32_w]
                rfl
              refine pure_ (i := 23) (N := some 49) (v := undef) (a' := ?_) #[true, true, true, true, true, true, true, true, true, true, true, true, true, true, true, true, true, true, true, true, true, true, true, true, false, false, false, false, false, false, false, false, false] rfl rfl (any_of HT_.out (by kernel_rfl)) (fun _ _ _ h => h) (Or.inr ⟨by rfl, rfl⟩) ?_ ?_
              rotate_left
              · simp only [Act.put, List.setIfInBounds_toArray, List.set_cons_zero, List.set_cons_succ, i64_w, i32_w]
                rfl
              refine pure_ (i := 24) (N := some 50) (v := ?_) (a' := ?_) #[true, true, true, true, true, true, true, true, true, true, true, true, true, true, true, true, true, true, true, true, true, true, true, true, true, false, false, false, false, false, false, false, false] rfl rfl (any_of HT_.out (by kernel_rfl)) (fun _ _ _ h => h) (Or.inl ⟨by rfl, ?_⟩) ?_ ?_
              rotate_left
              · intro w'
                go_simp
                with_reducible rfl
              rotate_left
              · simp only [Act.put, List.setIfInBounds_toArray, List.set_cons_zero, List.set_cons_succ, i64_w, i32_w]
                rfl
              refine pure_ (i := 25) (N := some 51) (v := ?_) (a' := ?_) #[true, true, true, true, true, true, true, true, true, true, true, true, true, true, true, true, true, true, true, true, true, true, true, true, true, true, false, false, false, false, false, false, false] rfl rfl (any_of HT_.out (by kernel_rfl)) (fun _ _ _ h => h) (Or.inl ⟨by rfl, ?_⟩) ?_ ?_
              rotate_left
              · intro w'
                go_simp
                with_reducible rfl
              rotate_left
              · simp only [Act.put, List.setIfInBounds_toArray, List.set_cons_zero, List.set_cons_succ, i64_w, i32_w]
                rfl
              refine pure_ (i := 26) (N := some 52) (v := undef) (a' := ?_) #[true, true, true, true, true, true, true, true, true, true, true, true, true, true, true, true, true, true, true, true, true, true, true, true, true, true, true, false, false, false, false, false, false] rfl rfl (any_of HT_.out (by kernel_rfl)) (fun _ _ _ h => h) (Or.inr ⟨by rfl, rfl⟩) ?_ ?_
              rotate_left
              · simp only [Act.put, List.setIfInBounds_toArray, List.set_cons_zero, List.set_cons_succ, i64_w, i32_w]
                rfl
              refine pure_ (i := 27) (N := some 53) (v := undef) (a' := ?_) #[true, true, true, true, true, true, true, true, true, true, true, true, true, true, true, true, true, true, true, true, true, true, true, true, true, true, true, true, false, false, false, false, false] rfl rfl (any_of HT_.out (by kernel_rfl)) (fun _ _ _ h => h) (Or.inr ⟨by rfl, rfl⟩) ?_ ?_
              rotate_left
              · simp only [Act.put, List.setIfInBounds_toArray, List.set_cons_zero, List.set_cons_succ, i64_w, i32_w]
                rfl
              refine pure_ (i := 28) (N := some 54) (v := undef) (a' := ?_) #[true, true, true, true, true, true, true, true, true, true, true, true, true, true, true, true, true, true, true, true, true, true, true, true, true, true, true, true, true, false, false, false, false] rfl rfl (any_of HT_.out (by kernel_rfl)) (fun _ _ _ h => h) (Or.inr ⟨by rfl, rfl⟩) ?_ ?_
              rotate_left
              · simp only [Act.put, List.setIfInBounds_toArray, List.set_cons_zero, List.set_cons_succ, i64_w, i32_w]
                rfl
              refine pure_ (i := 29) (N := some 55) (v := undef) (a' := ?_) #[true, true, true, true, true, true, true, true, true, true, true, true, true, true, true, true, true, true, true, true, true, true, true, true, true, true, true, true, true, true, false, false, false] rfl rfl (any_of HT_.out (by kernel_rfl)) (fun _ _ _ h => h) (Or.inr ⟨by rfl, rfl⟩) ?_ ?_
              rotate_left
              · simp only [Act.put, List.setIfInBounds_toArray, List.set_cons_zero, List.set_cons_succ, i64_w, i32_w]
                rfl
              refine pure_ (i := 30) (N := some 56) (v := undef) (a' := ?_) #[true, true, true, true, true, true, true, true, true, true, true, true, true, true, true, true, true, true, true, true, true, true, true, true, true, true, true, true, true, true, true, false, false] rfl rfl (any_of HT_.out (by kernel_rfl)) (fun _ _ _ h => h) (Or.inr ⟨by rfl, rfl⟩) ?_ ?_
              rotate_left
              · simp only [Act.put, List.setIfInBounds_toArray, List.set_cons_zero, List.set_cons_succ, i64_w, i32_w]
                rfl
              refine pure_ (i := 31) (N := some 57) (v := undef) (a' := ?_) #[true, true, true, true, true, true, true, true, true, true, true, true, true, true, true, true, true, true, true, true, true, true, true, true, true, true, true, true, true, true, true, true, false] rfl rfl (any_of HT_.out (by kernel_rfl)) (fun _ _ _ h => h) (Or.inr ⟨by rfl, rfl⟩) ?_ ?_
              rotate_left
              · simp only [Act.put, List.setIfInBounds_toArray, List.set_cons_zero, List.set_cons_succ, i64_w, i32_w]
                rfl
              refine pure_ (i := 32) (N := some 58) (v := ?_) (a' := ?_) #[true, true, true, true, true, true, true, true, true, true, true, true, true, true, true, true, true, true, true, true, true, true, true, true, true, true, true, true, true, true, true, true, true] rfl rfl (any_of HT_.out (by kernel_rfl)) (fun _ _ _ h => h) (Or.inl ⟨by rfl, ?_⟩) ?_ ?_
              rotate_left
              · intro w'
                go_simp
                with_reducible rfl
              rotate_left
              · simp only [Act.put, List.setIfInBounds_toArray, List.set_cons_zero, List.set_cons_succ, i64_w, i32_w]
                rfl
              refine done_ (done_of HT_.out (by kernel_rfl)) ?_
              go_wp2_with fail
              go_meet
              case rel => exact ⟨congrArg Value.bool HV.out.symm, ⟨BZ.out⟩⟩
            | true =>
              have HO := Aside0.mk hok
              clear hok
              have hjt : j < (truth n l es).length := by rw [HTL.out]; exact hlt
              have hjt2 := eq_true hjt
              have H0 := Aside0.mk (show 0 < (truthAt n l es (j + 1)).length by rw [truthAt_length]; have := HN.out; omega)
              have H63 := Aside0.mk (show (truthAt n l es (j + 1)).length < 9223372036854775807 by rw [truthAt_length]; have := HN.out; omega)
              obtain ⟨m, hm⟩ : ∃ m, minL ((truthAt n l es (j + 1)).drop 1) (rd (truthAt n l es (j + 1)) 0) = m := ⟨_, rfl⟩
              have HM := Aside0.mk hm
              clear hm
              have HMN := Aside0.mk (show (!(nonneg (truthAt n l es (j + 1)))) = decide (m < 0) by rw [← HM.out]; exact min_dec _ H0.out)
              by_cases h5 : x.f0 = 5
              · have h5b : (x.f0 == 5) = true := beq_iff_eq.mpr h5
                have H5 := Aside0.mk h5
                clear h5
                have HRE := Aside0.mk (truthAt_reset (n := n) (l := l) (es := es) hlt (by rw [HX.out]; exact H5.out))
                by_cases hj0 : (j : Int) > 0
                · have hj0b : decide ((0 : Int) < (j : Int)) = true := decide_eq_true hj0
                  have hj0c : decide (0 < j) = true := decide_eq_true (by omega)
                  obtain ⟨o1, o2⟩ := eventOk_reset HO.out H5.out
                  obtain ⟨ji, hji⟩ : ∃ ji : Int, ji = (j : Int) - 1 := ⟨_, rfl⟩
                  have hjn : ji = ((j - 1 : Nat) : Int) := by omega
                  have hq0 : (0 : Int) ≤ ji := by omega
                  have hq1 : ji < ((truth n l es).length : Int) := by rw [HTL.out]; omega
                  obtain ⟨adt', Ap, cp, e, yp, lp, Cp⟩ := at_L12 (Kd.S_reads' ST.out.HT).2.2 ji hq0 hq1
                  cases e
                  have hrd : rd_L12 (truth n l es) ji = truthAt n l es j := by rw [hjn, truth_rd HL.out HE.out (j - 1) (by omega), show j - 1 + 1 = j by omega]
                  rw [hrd] at yp lp Cp
                  have hof : x.f1 < ((truthAt n l es j).length : Int) := by rw [truthAt_length]; have := HN.out; omega
                  obtain ⟨adp, e, -⟩ := Cp.2.2 (by omega)
                  subst e
                  have hcv := pw_cell_below BR.out (Kd.foot_int Cp x.f1 o1 hof)
                  have hcp := pw_cell_below BR.out yp
                  have hw1 : wrap64 ((j : Int) - 1) = ji := by rw [hji]; exact wrap_id (by have := HE.out; omega) (by have := HE.out; omega)
                  have hw2 : IntKind.i64.wrap ((j : Int) - 1) = ji := by rw [i64_w]; exact hw1
                  have hp0 := eq_true hq0
                  have hp1 := eq_true hq1
                  have ho0 := eq_true o1
                  have ho1 := eq_true hof
                  generalize hrv : rd (truthAt n l es j) x.f1 = rv at hcv
                  have HRV := Aside0.mk hrv
                  clear hrv hji hjn hrd lp Cp yp hj0 o2
                  by_cases hz : rv = 0
                  · have hzb : (rv != 0) = false := bne_eq_false_iff_eq.mpr hz
                    have HV := Aside0.mk (show (!(honestAt n l es j)) = decide (m < 0) by rw [honestAt_zero (by rw [HX.out]; exact HO.out) (by rw [HX.out, HRE.out, HRV.out]; exact hz)]; exact HMN.out)
                    clear hz
                    refine start_ (n := 33) (S := fun w' => w'.cell? ⟨gl, 0, none⟩ = some (.int .i64 n) ∧ w'.cell? ⟨gl, 1, none⟩ = some (.slice A l.length c) ∧ w'.cell? ⟨ge, 0, none⟩ = some (.int .i64 x.f0) ∧ w'.cell? ⟨ge, 1, none⟩ = some (.int .i64 x.f1) ∧ w'.cell? ⟨ge, 2, none⟩ = some (.int .i64 x.f2) ∧ w'.cell? (adt.add j) = some (.slice Ar (truthAt n l es (j + 1)).length cr) ∧ w'.cell? (adt.add ji.toNat) = some (.slice (some adp) (truthAt n l es j).length cp) ∧ w'.cell? (adp.add x.f1.toNat) = some (.int .i64 rv)) (ds := []) #[false, false, false, false, false, false, false, false, false, false, false, false, false, false, false, false, false, false, false, false, false, false, false, false, false, false, false, false, false, false, false, false, false] (by kernel_rfl) rfl rfl ⟨hcl0, hcl1, hce0, hce1, hce2, hcy, hcp, hcv⟩ (fun hHeld => ?_); refine with_tabW ho_tab7 ho_bits7 (fun HT_ HW_ => ?_)
                    refine take_ (i := 0) (N := some 26) (v := ?_) (a' := ?_) #[true, false, false, false, false, false, false, false, false, false, false, false, false, false, false, false, false, false, false, false, false, false, false, false, false, false, false, false, false, false, false, false, false] rfl rfl (take_ofW HT_.out HW_.out (by kernel_rfl)) (fun _ _ _ h => h) (Or.inl ⟨by rfl, ?_⟩) hHeld ?_ ?_
                    rotate_left
                    · rintro w' ⟨s0, s1, s2, s3, s4, s5, s6, s7⟩
                      go_simp
                      with_reducible rfl
                    rotate_left
                    · simp only [Act.put, List.setIfInBounds_toArray, List.set_cons_zero, List.set_cons_succ, i64_w, i32_w]
                      rfl
                    refine take_ (i := 1) (N := some 27) (v := ?_) (a' := ?_) #[true, true, false, false, false, false, false, false, false, false, false, false, false, false, false, false, false, false, false, false, false, false, false, false, false, false, false, false, false, false, false, false, false] rfl rfl (take_ofW HT_.out HW_.out (by kernel_rfl)) (fun _ _ _ h => h) (Or.inl ⟨by rfl, ?_⟩) hHeld ?_ ?_
                    rotate_left
                    · rintro w' ⟨s0, s1, s2, s3, s4, s5, s6, s7⟩
                      go_simp
                      with_reducible rfl
                    rotate_left
                    · simp only [Act.put, List.setIfInBounds_toArray, List.set_cons_zero, List.set_cons_succ, i64_w, i32_w]
                      rfl
                    refine one_ (i := 2) (N := some 28) #[true, true, true, false, false, false, false, false, false, false, false, false, false, false, false, false, false, false, false, false, false, false, false, false, false, false, false, false, false, false, false, false, false] rfl rfl (one_of HT_.out (by kernel_rfl)) (by decide) (fun K hK => ?_)
                    refine goes_ Try.func36 (by kernel_rfl) rfl #[.agg #[.int .i64 n, .slice A l.length c], .agg #[.int .i64 x.f0, .int .i64 x.f1, .int .i64 x.f2]] (by rfl) rfl rfl (by (try simp only [List.map_toArray, List.map_cons, List.map_nil]); first | done | rfl | (simp only [List.length_drop, List.length_take]; rfl)) ?_
                    with_reducible refine (ev_at x.f0 x.f1 x.f2 HO.out (Kd.C_below HR.out BD.out) HC.out).mono ?_; rintro e w9 ⟨rfl, hb⟩
                    refine ⟨_, rfl, ?_⟩
                    have BZ := Aside0.mk (below_step BR.out hb)
                    refine hK.out _ _ ⟨pw_cell_below hb hHeld.1, pw_cell_below hb hHeld.2.1, pw_cell_below hb hHeld.2.2.1, pw_cell_below hb hHeld.2.2.2.1, pw_cell_below hb hHeld.2.2.2.2.1, pw_cell_below hb hHeld.2.2.2.2.2.1, pw_cell_below hb hHeld.2.2.2.2.2.2.1, pw_cell_below hb hHeld.2.2.2.2.2.2.2⟩ (fun hHeld => ?_)
                    clear hK K
                    refine norm_ (a' := ?_) ?_ ?_
                    rotate_left
                    · show Act.put _ (some 28) _ = _
                      simp only [Act.put, List.setIfInBounds_toArray, List.set_cons_zero, List.set_cons_succ, i64_w, i32_w]
                      rfl
                    refine pure_ (i := 3) (N := some 29) (v := ?_) (a' := ?_) #[true, true, true, true, false, false, false, false, false, false, false, false, false, false, false, false, false, false, false, false, false, false, false, false, false, false, false, false, false, false, false, false, false] rfl rfl (any_of HT_.out (by kernel_rfl)) (fun _ _ _ h => h) (Or.inl ⟨by rfl, ?_⟩) ?_ ?_
                    rotate_left
                    · intro w'
                      go_simp
                      with_reducible rfl
                    rotate_left
                    · simp only [Act.put, List.setIfInBounds_toArray, List.set_cons_zero, List.set_cons_succ, i64_w, i32_w]
                      rfl
                    refine pure_ (i := 4) (N := some 30) (v := ?_) (a' := ?_) #[true, true, true, true, true, false, false, false, false, false, false, false, false, false, false, false, false, false, false, false, false, false, false, false, false, false, false, false, false, false, false, false, false] rfl rfl (any_of HT_.out (by kernel_rfl)) (fun _ _ _ h => h) (Or.inl ⟨by rfl, ?_⟩) ?_ ?_
                    rotate_left
                    · intro w'
                      go_simp
                      with_reducible rfl
                    rotate_left
                    · simp only [Act.put, List.setIfInBounds_toArray, List.set_cons_zero, List.set_cons_succ, i64_w, i32_w]
                      rfl
                    refine pure_ (i := 5) (N := some 31) (v := ?_) (a' := ?_) #[true, true, true, true, true, true, false, false, false, false, false, false, false, false, false, false, false, false, false, false, false, false, false, false, false, false, false, false, false, false, false, false, false] rfl rfl (any_of HT_.out (by kernel_rfl)) (fun _ _ _ h => h) (Or.inl ⟨by rfl, ?_⟩) ?_ ?_
                    rotate_left
                    · intro w'
                      go_simp
                      with_reducible rfl
                    rotate_left
                    · simp only [Act.put, List.setIfInBounds_toArray, List.set_cons_zero, List.set_cons_succ, i64_w, i32_w]
                      rfl
                    refine take_ (i := 6) (N := some 32) (v := ?_) (a' := ?_) #[true, true, true, true, true, true, true, false, false, false, false, false, false, false, false, false, false, false, false, false, false, false, false, false, false, false, false, false, false, false, false, false, false] rfl rfl (take_ofW HT_.out HW_.out (by kernel_rfl)) (fun _ _ _ h => h) (Or.inl ⟨by rfl, ?_⟩) hHeld ?_ ?_
                    rotate_left
                    · rintro w' ⟨s0, s1, s2, s3, s4, s5, s6, s7⟩
                      go_simp
                      with_reducible rfl
                    rotate_left
                    · simp only [Act.put, List.setIfInBounds_toArray, List.set_cons_zero, List.set_cons_succ, i64_w, i32_w]
                      rfl
                    refine pure_ (i := 7) (N := some 33) (v := ?_) (a' := ?_) #[true, true, true, true, true, true, true, true, false, false, false, false, false, false, false, false, false, false, false, false, false, false, false, false, false, false, false, false, false, false, false, false, false] rfl rfl (any_of HT_.out (by kernel_rfl)) (fun _ _ _ h => h) (Or.inl ⟨by rfl, ?_⟩) ?_ ?_
                    rotate_left
                    · intro w'
                      go_simp
                      with_reducible rfl
                    rotate_left
                    · simp only [Act.put, List.setIfInBounds_toArray, List.set_cons_zero, List.set_cons_succ, i64_w, i32_w]
                      rfl
                    refine pure_ (i := 8) (N := some 34) (v := ?_) (a' := ?_) #[true, true, true, true, true, true, true, true, true, false, false, false, false, false, false, false, false, false, false, false, false, false, false, false, false, false, false, false, false, false, false, false, false] rfl rfl (any_of HT_.out (by kernel_rfl)) (fun _ _ _ h => h) (Or.inl ⟨by rfl, ?_⟩) ?_ ?_
                    rotate_left
                    · intro w'
                      go_simp
                      with_reducible rfl
                    rotate_left
                    · simp only [Act.put, List.setIfInBounds_toArray, List.set_cons_zero, List.set_cons_succ, i64_w, i32_w]
                      rfl
                    refine pure_ (i := 9) (N := some 35) (v := ?_) (a' := ?_) #[true, true, true, true, true, true, true, true, true, true, false, false, false, false, false, false, false, false, false, false, false, false, false, false, false, false, false, false, false, false, false, false, false] rfl rfl (any_of HT_.out (by kernel_rfl)) (fun _ _ _ h => h) (Or.inl ⟨by rfl, ?_⟩) ?_ ?_
                    rotate_left
                    · intro w'
                      go_simp
                      with_reducible rfl
                    rotate_left
                    · simp only [Act.put, List.setIfInBounds_toArray, List.set_cons_zero, List.set_cons_succ, i64_w, i32_w]
                      rfl
                    refine pure_ (i := 10) (N := some 36) (v := ?_) (a' := ?_) #[true, true, true, true, true, true, true, true, true, true, true, false, false, false, false, false, false, false, false, false, false, false, false, false, false, false, false, false, false, false, false, false, false] rfl rfl (any_of HT_.out (by kernel_rfl)) (fun _ _ _ h => h) (Or.inl ⟨by rfl, ?_⟩) ?_ ?_
                    rotate_left
                    · intro w'
                      go_simp
                      with_reducible rfl
                    rotate_left
                    · simp only [Act.put, List.setIfInBounds_toArray, List.set_cons_zero, List.set_cons_succ, i64_w, i32_w]
                      rfl
                    refine pure_ (i := 11) (N := some 37) (v := ?_) (a' := ?_) #[true, true, true, true, true, true, true, true, true, true, true, true, false, false, false, false, false, false, false, false, false, false, false, false, false, false, false, false, false, false, false, false, false] rfl rfl (any_of HT_.out (by kernel_rfl)) (fun _ _ _ h => h) (Or.inl ⟨by rfl, ?_⟩) ?_ ?_
                    rotate_left
                    · intro w'
                      go_simp
                      with_reducible rfl
                    rotate_left
                    · simp only [Act.put, List.setIfInBounds_toArray, List.set_cons_zero, List.set_cons_succ, i64_w, i32_w]
                      rfl
                    refine pure_ (i := 12) (N := some 38) (v := ?_) (a' := ?_) #[true, true, true, true, true, true, true, true, true, true, true, true, true, false, false, false, false, false, false, false, false, false, false, false, false, false, false, false, false, false, false, false, false] rfl rfl (any_of HT_.out (by kernel_rfl)) (fun _ _ _ h => h) (Or.inl ⟨by rfl, ?_⟩) ?_ ?_
                    rotate_left
                    · intro w'
                      go_simp
                      with_reducible rfl
                    rotate_left
                    · simp only [Act.put, List.setIfInBounds_toArray, List.set_cons_zero, List.set_cons_succ, i64_w, i32_w]
                      rfl
                    refine pure_ (i := 13) (N := some 39) (v := ?_) (a' := ?_) #[true, true, true, true, true, true, true, true, true, true, true, true, true, true, false, false, false, false, false, false, false, false, false, false, false, false, false, false, false, false, false, false, false] rfl rfl (any_of HT_.out (by kernel_rfl)) (fun _ _ _ h => h) (Or.inl ⟨by rfl, ?_⟩) ?_ ?_
                    rotate_left
                    · intro w'
                      go_simp
                      with_reducible rfl
                    rotate_left
                    · simp only [Act.put, List.setIfInBounds_toArray, List.set_cons_zero, List.set_cons_succ, i64_w, i32_w]
                      rfl
                    refine pure_ (i := 14) (N := some 40) (v := ?_) (a' := ?_) #[true, true, true, true, true, true, true, true, true, true, true, true, true, true, true, false, false, false, false, false, false, false, false, false, false, false, false, false, false, false, false, false, false] rfl rfl (any_of HT_.out (by kernel_rfl)) (fun _ _ _ h => h) (Or.inl ⟨by rfl, ?_⟩) ?_ ?_
                    rotate_left
                    · intro w'
                      go_simp
                      with_reducible rfl
                    rotate_left
                    · simp only [Act.put, List.setIfInBounds_toArray, List.set_cons_zero, List.set_cons_succ, i64_w, i32_w]
                      rfl
                    refine pure_ (i := 15) (N := some 41) (v := ?_) (a' := ?_) #[true, true, true, true, true, true, true, true, true, true, true, true, true, true, true, true, false, false, false, false, false, false, false, false, false, false, false, false, false, false, false, false, false] rfl rfl (any_of HT_.out (by kernel_rfl)) (fun _ _ _ h => h) (Or.inl ⟨by rfl, ?_⟩) ?_ ?_
                    rotate_left
                    · intro w'
                      go_simp
                      with_reducible rfl
                    rotate_left
                    · simp only [Act.put, List.setIfInBounds_toArray, List.set_cons_zero, List.set_cons_succ, i64_w, i32_w]
                      rfl
                    refine pure_ (i := 16) (N := some 42) (v := ?_) (a' := ?_) #[true, true, true, true, true, true, true, true, true, true, true, true, true, true, true, true, true, false, false, false, false, false, false, false, false, false, false, false, false, false, false, false, false] rfl rfl (any_of HT_.out (by kernel_rfl)) (fun _ _ _ h => h) (Or.inl ⟨by rfl, ?_⟩) ?_ ?_
                    rotate_left
                    · intro w'
                      go_simp
                      with_reducible rfl
                    rotate_left
                    · simp only [Act.put, List.setIfInBounds_toArray, List.set_cons_zero, List.set_cons_succ, i64_w, i32_w]
                      rfl
                    refine take_ (i := 17) (N := some 43) (v := ?_) (a' := ?_) #[true, true, true, true, true, true, true, true, true, true, true, true, true, true, true, true, true, true, false, false, false, false, false, false, false, false, false, false, false, false, false, false, false] rfl rfl (take_ofW HT_.out HW_.out (by kernel_rfl)) (fun _ _ _ h => h) (Or.inl ⟨by rfl, ?_⟩) hHeld ?_ ?_
                    rotate_left
                    · rintro w' ⟨s0, s1, s2, s3, s4, s5, s6, s7⟩
                      go_simp
                      with_reducible rfl
                    rotate_left
                    · simp only [Act.put, List.setIfInBounds_toArray, List.set_cons_zero, List.set_cons_succ, i64_w, i32_w]
                      rfl
                    refine pure_ (i := 18) (N := some 44) (v := ?_) (a' := ?_) #[true, true, true, true, true, true, true, true, true, true, true, true, true, true, true, true, true, true, true, false, false, false, false, false, false, false, false, false, false, false, false, false, false] rfl rfl (any_of HT_.out (by kernel_rfl)) (fun _ _ _ h => h) (Or.inl ⟨by rfl, ?_⟩) ?_ ?_
                    rotate_left
                    · intro w'
                      go_simp
                      with_reducible rfl
                    rotate_left
                    · simp only [Act.put, List.setIfInBounds_toArray, List.set_cons_zero, List.set_cons_succ, i64_w, i32_w]
                      rfl
                    refine take_ (i := 19) (N := some 45) (v := ?_) (a' := ?_) #[true, true, true, true, true, true, true, true, true, true, true, true, true, true, true, true, true, true, true, true, false, false, false, false, false, false, false, false, false, false, false, false, false] rfl rfl (take_ofW HT_.out HW_.out (by kernel_rfl)) (fun _ _ _ h => h) (Or.inl ⟨by rfl, ?_⟩) hHeld ?_ ?_
                    rotate_left
                    · rintro w' ⟨s0, s1, s2, s3, s4, s5, s6, s7⟩
                      go_simp
                      with_reducible rfl
                    rotate_left
                    · simp only [Act.put, List.setIfInBounds_toArray, List.set_cons_zero, List.set_cons_succ, i64_w, i32_w]
                      rfl
                    refine pure_ (i := 20) (N := some 46) (v := ?_) (a' := ?_) #[true, true, true, true, true, true, true, true, true, true, true, true, true, true, true, true, true, true, true, true, true, false, false, false, false, false, false, false, false, false, false, false, false] rfl rfl (any_of HT_.out (by kernel_rfl)) (fun _ _ _ h => h) (Or.inl ⟨by rfl, ?_⟩) ?_ ?_
                    rotate_left
                    · intro w'
                      go_simp
                      with_reducible rfl
                    rotate_left
                    · simp only [Act.put, List.setIfInBounds_toArray, List.set_cons_zero, List.set_cons_succ, i64_w, i32_w]
                      rfl
                    refine take_ (i := 21) (N := some 47) (v := ?_) (a' := ?_) #[true, true, true, true, true, true, true, true, true, true, true, true, true, true, true, true, true, true, true, true, true, true, false, false, false, false, false, false, false, false, false, false, false] rfl rfl (take_ofW HT_.out HW_.out (by kernel_rfl)) (fun _ _ _ h => h) (Or.inl ⟨by rfl, ?_⟩) hHeld ?_ ?_
                    rotate_left
                    · rintro w' ⟨s0, s1, s2, s3, s4, s5, s6, s7⟩
                      go_simp
                      with_reducible rfl
                    rotate_left
                    · simp only [Act.put, List.setIfInBounds_toArray, List.set_cons_zero, List.set_cons_succ, i64_w, i32_w]
                      rfl
                    refine pure_ (i := 22) (N := some 48) (v := ?_) (a' := ?_) #[true, true, true, true, true, true, true, true, true, true, true, true, true, true, true, true, true, true, true, true, true, true, true, false, false, false, false, false, false, false, false, false, false] rfl rfl (any_of HT_.out (by kernel_rfl)) (fun _ _ _ h => h) (Or.inl ⟨by rfl, ?_⟩) ?_ ?_
                    rotate_left
                    · intro w'
                      go_simp
                      with_reducible rfl
                    rotate_left
                    · simp only [Act.put, List.setIfInBounds_toArray, List.set_cons_zero, List.set_cons_succ, i64_w, i32_w]
                      rfl
                    refine pure_ (i := 23) (N := some 49) (v := ?_) (a' := ?_) #[true, true, true, true, true, true, true, true, true, true, true, true, true, true, true, true, true, true, true, true, true, true, true, true, false, false, false, false, false, false, false, false, false] rfl rfl (any_of HT_.out (by kernel_rfl)) (fun _ _ _ h => h) (Or.inl ⟨by rfl, ?_⟩) ?_ ?_
                    rotate_left
                    · intro w'
                      go_simp
                      with_reducible rfl
                    rotate_left
                    · simp only [Act.put, List.setIfInBounds_toArray, List.set_cons_zero, List.set_cons_succ, i64_w, i32_w]
                      rfl
                    refine pure_ (i := 24) (N := some 50) (v := ?_) (a' := ?_) #[true, true, true, true, true, true, true, true, true, true, true, true, true, true, true, true, true, true, true, true, true, true, true, true, true, false, false, false, false, false, false, false, false] rfl rfl (any_of HT_.out (by kernel_rfl)) (fun _ _ _ h => h) (Or.inl ⟨by rfl, ?_⟩) ?_ ?_
                    rotate_left
                    · intro w'
                      go_simp
                      with_reducible rfl
                    rotate_left
                    · simp only [Act.put, List.setIfInBounds_toArray, List.set_cons_zero, List.set_cons_succ, i64_w, i32_w]
                      rfl
                    refine pure_ (i := 25) (N := some 51) (v := ?_) (a' := ?_) #[true, true, true, true, true, true, true, true, true, true, true, true, true, true, true, true, true, true, true, true, true, true, true, true, true, true, false, false, false, false, false, false, false] rfl rfl (any_of HT_.out (by kernel_rfl)) (fun _ _ _ h => h) (Or.inl ⟨by rfl, ?_⟩) ?_ ?_
                    rotate_left
                    · intro w'
                      go_simp
                      with_reducible rfl
                    rotate_left
                    · simp only [Act.put, List.setIfInBounds_toArray, List.set_cons_zero, List.set_cons_succ, i64_w, i32_w]
                      rfl
                    refine pure_ (i := 26) (N := some 52) (v := ?_) (a' := ?_) #[true, true, true, true, true, true, true, true, true, true, true, true, true, true, true, true, true, true, true, true, true, true, true, true, true, true, true, false, false, false, false, false, false] rfl rfl (any_of HT_.out (by kernel_rfl)) (fun _ _ _ h => h) (Or.inl ⟨by rfl, ?_⟩) ?_ ?_
                    rotate_left
                    · intro w'
                      go_simp
                      with_reducible rfl
                    rotate_left
                    · simp only [Act.put, List.setIfInBounds_toArray, List.set_cons_zero, List.set_cons_succ, i64_w, i32_w]
                      rfl
                    refine pure_ (i := 27) (N := some 53) (v := ?_) (a' := ?_) #[true, true, true, true, true, true, true, true, true, true, true, true, true, true, true, true, true, true, true, true, true, true, true, true, true, true, true, true, false, false, false, false, false] rfl rfl (any_of HT_.out (by kernel_rfl)) (fun _ _ _ h => h) (Or.inl ⟨by rfl, ?_⟩) ?_ ?_
                    rotate_left
                    · intro w'
                      go_simp
                      with_reducible rfl
                    rotate_left
                    · simp only [Act.put, List.setIfInBounds_toArray, List.set_cons_zero, List.set_cons_succ, i64_w, i32_w]
                      rfl
                    refine pure_ (i := 28) (N := some 54) (v := ?_) (a' := ?_) #[true, true, true, true, true, true, true, true, true, true, true, true, true, true, true, true, true, true, true, true, true, true, true, true, true, true, true, true, true, false, false, false, false] rfl rfl (any_of HT_.out (by kernel_rfl)) (fun _ _ _ h => h) (Or.inl ⟨by rfl, ?_⟩) ?_ ?_
                    rotate_left
                    · intro w'
                      go_simp
                      with_reducible rfl
                    rotate_left
                    · simp only [Act.put, List.setIfInBounds_toArray, List.set_cons_zero, List.set_cons_succ, i64_w, i32_w]
                      rfl
                    refine take_ (i := 29) (N := some 55) (v := ?_) (a' := ?_) #[true, true, true, true, true, true, true, true, true, true, true, true, true, true, true, true, true, true, true, true, true, true, true, true, true, true, true, true, true, true, false, false, false] rfl rfl (take_ofW HT_.out HW_.out (by kernel_rfl)) (fun _ _ _ h => h) (Or.inl ⟨by rfl, ?_⟩) hHeld ?_ ?_
                    rotate_left
                    · rintro w' ⟨s0, s1, s2, s3, s4, s5, s6, s7⟩
                      go_simp
                      with_reducible rfl
                    rotate_left
                    · simp only [Act.put, List.setIfInBounds_toArray, List.set_cons_zero, List.set_cons_succ, i64_w, i32_w]
                      rfl
                    refine one_ (i := 30) (N := some 56) #[true, true, true, true, true, true, true, true, true, true, true, true, true, true, true, true, true, true, true, true, true, true, true, true, true, true, true, true, true, true, true, false, false] rfl rfl (one_of HT_.out (by kernel_rfl)) (by decide) (fun K hK => ?_)
                    refine goes_ Try.func106 (by kernel_rfl) rfl #[.slice Ar (truthAt n l es (j + 1)).length cr] (by rfl) rfl rfl (by (try simp only [List.map_toArray, List.map_cons, List.map_nil]); first | done | rfl | (simp only [List.length_drop, List.length_take]; rfl)) ?_
                    with_reducible refine (min_at HM.out (Kd.C_below CR.out BZ.out) LR.out H0.out H63.out).mono ?_; rintro e w10 ⟨rfl, hb⟩
                    refine ⟨_, rfl, ?_⟩
                    have BZ := Aside0.mk (below_step BZ.out hb)
                    refine hK.out _ _ ⟨pw_cell_below hb hHeld.1, pw_cell_below hb hHeld.2.1, pw_cell_below hb hHeld.2.2.1, pw_cell_below hb hHeld.2.2.2.1, pw_cell_below hb hHeld.2.2.2.2.1, pw_cell_below hb hHeld.2.2.2.2.2.1, pw_cell_below hb hHeld.2.2.2.2.2.2.1, pw_cell_below hb hHeld.2.2.2.2.2.2.2⟩ (fun hHeld => ?_)
                    clear hK K
                    refine norm_ (a' := ?_) ?_ ?_
                    rotate_left
                    · show Act.put _ (some 56) _ = _
                      simp only [Act.put, List.setIfInBounds_toArray, List.set_cons_zero, List.set_cons_succ, i64_w, i32_w]
                      rfl
                    refine pure_ (i := 31) (N := some 57) (v := ?_) (a' := ?_) #[true, true, true, true, true, true, true, true, true, true, true, true, true, true, true, true, true, true, true, true, true, true, true, true, true, true, true, true, true, true, true, true, false] rfl rfl (any_of HT_.out (by kernel_rfl)) (fun _ _ _ h => h) (Or.inl ⟨by rfl, ?_⟩) ?_ ?_
                    rotate_left
                    · intro w'
                      go_simp
                      with_reducible rfl
                    rotate_left
                    · simp only [Act.put, List.setIfInBounds_toArray, List.set_cons_zero, List.set_cons_succ, i64_w, i32_w]
                      rfl
                    refine pure_ (i := 32) (N := some 58) (v := ?_) (a' := ?_) #[true, true, true, true, true, true, true, true, true, true, true, true, true, true, true, true, true, true, true, true, true, true, true, true, true, true, true, true, true, true, true, true, true] rfl rfl (any_of HT_.out (by kernel_rfl)) (fun _ _ _ h => h) (Or.inl ⟨by rfl, ?_⟩) ?_ ?_
                    rotate_left
                    · intro w'
                      go_simp
                      with_reducible rfl
                    rotate_left
                    · simp only [Act.put, List.setIfInBounds_toArray, List.set_cons_zero, List.set_cons_succ, i64_w, i32_w]
                      rfl
                    refine done_ (done_of HT_.out (by kernel_rfl)) ?_
                    go_wp2_with fail
                    go_meet
                    case rel => exact ⟨congrArg Value.bool HV.out.symm, ⟨BZ.out⟩⟩
                  · have hzb : (rv != 0) = true := bne_iff_ne.mpr hz
                    have HV := Aside0.mk (show (!(honestAt n l es j)) = true by rw [honestAt_some (by rw [HX.out]; exact H5.out) (by rw [HX.out, HRE.out, HRV.out]; exact hz)]; rfl)
                    clear hz
                    refine start_ (n := 33) (S := fun w' => w'.cell? ⟨gl, 0, none⟩ = some (.int .i64 n) ∧ w'.cell? ⟨gl, 1, none⟩ = some (.slice A l.length c) ∧ w'.cell? ⟨ge, 0, none⟩ = some (.int .i64 x.f0) ∧ w'.cell? ⟨ge, 1, none⟩ = some (.int .i64 x.f1) ∧ w'.cell? ⟨ge, 2, none⟩ = some (.int .i64 x.f2) ∧ w'.cell? (adt.add j) = some (.slice Ar (truthAt n l es (j + 1)).length cr) ∧ w'.cell? (adt.add ji.toNat) = some (.slice (some adp) (truthAt n l es j).length cp) ∧ w'.cell? (adp.add x.f1.toNat) = some (.int .i64 rv)) (ds := []) #[false, false, false, false, false, false, false, false, false, false, false, false, false, false, false, false, false, false, false, false, false, false, false, false, false, false, false, false, false, false, false, false, false] (by kernel_rfl) rfl rfl ⟨hcl0, hcl1, hce0, hce1, hce2, hcy, hcp, hcv⟩ (fun hHeld => ?_); refine with_tabW ho_tab7 ho_bits7 (fun HT_ HW_ => ?_)
                    refine take_ (i := 0) (N := some 26) (v := ?_) (a' := ?_) #[true, false, false, false, false, false, false, false, false, false, false, false, false, false, false, false, false, false, false, false, false, false, false, false, false, false, false, false, false, false, false, false, false] rfl rfl (take_ofW HT_.out HW_.out (by kernel_rfl)) (fun _ _ _ h => h) (Or.inl ⟨by rfl, ?_⟩) hHeld ?_ ?_
                    rotate_left
                    · rintro w' ⟨s0, s1, s2, s3, s4, s5, s6, s7⟩
                      go_simp
                      with_reducible rfl
                    rotate_left
                    · simp only [Act.put, List.setIfInBounds_toArray, List.set_cons_zero, List.set_cons_succ, i64_w, i32_w]
                      rfl
                    refine take_ (i := 1) (N := some 27) (v := ?_) (a' := ?_) #[true, true, false, false, false, false, false, false, false, false, false, false, false, false, false, false, false, false, false, false, false, false, false, false, false, false, false, false, false, false, false, false, false] rfl rfl (take_ofW HT_.out HW_.out (by kernel_rfl)) (fun _ _ _ h => h) (Or.inl ⟨by rfl, ?_⟩) hHeld ?_ ?_
                    rotate_left
                    · rintro w' ⟨s0, s1, s2, s3, s4, s5, s6, s7⟩
                      go_simp
                      with_reducible rfl
                    rotate_left
                    · simp only [Act.put, List.setIfInBounds_toArray, List.set_cons_zero, List.set_cons_succ, i64_w, i32_w]
                      rfl
                    refine one_ (i := 2) (N := some 28) #[true, true, true, false, false, false, false, false, false, false, false, false, false, false, false, false, false, false, false, false, false, false, false, false, false, false, false, false, false, false, false, false, false] rfl rfl (one_of HT_.out (by kernel_rfl)) (by decide) (fun K hK => ?_)
                    refine goes_ Try.func36 (by kernel_rfl) rfl #[.agg #[.int .i64 n, .slice A l.length c], .agg #[.int .i64 x.f0, .int .i64 x.f1, .int .i64 x.f2]] (by rfl) rfl rfl (by (try simp only [List.map_toArray, List.map_cons, List.map_nil]); first | done | rfl | (simp only [List.length_drop, List.length_take]; rfl)) ?_
                    with_reducible refine (ev_at x.f0 x.f1 x.f2 HO.out (Kd.C_below HR.out BD.out) HC.out).mono ?_; rintro e w9 ⟨rfl, hb⟩
                    refine ⟨_, rfl, ?_⟩
                    have BZ := Aside0.mk (below_step BR.out hb)
                    refine hK.out _ _ ⟨pw_cell_below hb hHeld.1, pw_cell_below hb hHeld.2.1, pw_cell_below hb hHeld.2.2.1, pw_cell_below hb hHeld.2.2.2.1, pw_cell_below hb hHeld.2.2.2.2.1, pw_cell_below hb hHeld.2.2.2.2.2.1, pw_cell_below hb hHeld.2.2.2.2.2.2.1, pw_cell_below hb hHeld.2.2.2.2.2.2.2⟩ (fun hHeld => ?_)
                    clear hK K
                    refine norm_ (a' := ?_) ?_ ?_
                    rotate_left
                    · show Act.put _ (some 28) _ = _
                      simp only [Act.put, List.setIfInBounds_toArray, List.set_cons_zero, List.set_cons_succ, i64_w, i32_w]
                      rfl
                    refine pure_ (i := 3) (N := some 29) (v := ?_) (a' := ?_) #[true, true, true, true, false, false, false, false, false, false, false, false, false, false, false, false, false, false, false, false, false, false, false, false, false, false, false, false, false, false, false, false, false] rfl rfl (any_of HT_.out (by kernel_rfl)) (fun _ _ _ h => h) (Or.inl ⟨by rfl, ?_⟩) ?_ ?_
                    rotate_left
                    · intro w'
                      go_simp
                      with_reducible rfl
                    rotate_left
                    · simp only [Act.put, List.setIfInBounds_toArray, List.set_cons_zero, List.set_cons_succ, i64_w, i32_w]
                      rfl
                    refine pure_ (i := 4) (N := some 30) (v := ?_) (a' := ?_) #[true, true, true, true, true, false, false, false, false, false, false, false, false, false, false, false, false, false, false, false, false, false, false, false, false, false, false, false, false, false, false, false, false] rfl rfl (any_of HT_.out (by kernel_rfl)) (fun _ _ _ h => h) (Or.inl ⟨by rfl, ?_⟩) ?_ ?_
                    rotate_left
                    · intro w'
                      go_simp
                      with_reducible rfl
                    rotate_left
                    · simp only [Act.put, List.setIfInBounds_toArray, List.set_cons_zero, List.set_cons_succ, i64_w, i32_w]
                      rfl
                    refine pure_ (i := 5) (N := some 31) (v := ?_) (a' := ?_) #[true, true, true, true, true, true, false, false, false, false, false, false, false, false, false, false, false, false, false, false, false, false, false, false, false, false, false, false, false, false, false, false, false] rfl rfl (any_of HT_.out (by kernel_rfl)) (fun _ _ _ h => h) (Or.inl ⟨by rfl, ?_⟩) ?_ ?_
                    rotate_left
                    · intro w'
                      go_simp
                      with_reducible rfl
                    rotate_left
                    · simp only [Act.put, List.setIfInBounds_toArray, List.set_cons_zero, List.set_cons_succ, i64_w, i32_w]
                      rfl
                    refine take_ (i := 6) (N := some 32) (v := ?_) (a' := ?_) #[true, true, true, true, true, true, true, false, false, false, false, false, false, false, false, false, false, false, false, false, false, false, false, false, false, false, false, false, false, false, false, false, false] rfl rfl (take_ofW HT_.out HW_.out (by kernel_rfl)) (fun _ _ _ h => h) (Or.inl ⟨by rfl, ?_⟩) hHeld ?_ ?_
                    rotate_left
                    · rintro w' ⟨s0, s1, s2, s3, s4, s5, s6, s7⟩
                      go_simp
                      with_reducible rfl
                    rotate_left
                    · simp only [Act.put, List.setIfInBounds_toArray, List.set_cons_zero, List.set_cons_succ, i64_w, i32_w]
                      rfl
                    refine pure_ (i := 7) (N := some 33) (v := ?_) (a' := ?_) #[true, true, true, true, true, true, true, true, false, false, false, false, false, false, false, false, false, false, false, false, false, false, false, false, false, false, false, false, false, false, false, false, false] rfl rfl (any_of HT_.out (by kernel_rfl)) (fun _ _ _ h => h) (Or.inl ⟨by rfl, ?_⟩) ?_ ?_
                    rotate_left
                    · intro w'
                      go_simp
                      with_reducible rfl
                    rotate_left
                    · simp only [Act.put, List.setIfInBounds_toArray, List.set_cons_zero, List.set_cons_succ, i64_w, i32_w]
                      rfl
                    refine pure_ (i := 8) (N := some 34) (v := ?_) (a' := ?_) #[true, true, true, true, true, true, true, true, true, false, false, false, false, false, false, false, false, false, false, false, false, false, false, false, false, false, false, false, false, false, false, false, false] rfl rfl (any_of HT_.out (by kernel_rfl)) (fun _ _ _ h => h) (Or.inl ⟨by rfl, ?_⟩) ?_ ?_
                    rotate_left
                    · intro w'
                      go_simp
                      with_reducible rfl
                    rotate_left
                    · simp only [Act.put, List.setIfInBounds_toArray, List.set_cons_zero, List.set_cons_succ, i64_w, i32_w]
                      rfl
                    refine pure_ (i := 9) (N := some 35) (v := ?_) (a' := ?_) #[true, true, true, true, true, true, true, true, true, true, false, false, false, false, false, false, false, false, false, false, false, false, false, false, false, false, false, false, false, false, false, false, false] rfl rfl (any_of HT_.out (by kernel_rfl)) (fun _ _ _ h => h) (Or.inl ⟨by rfl, ?_⟩) ?_ ?_
                    rotate_left
                    · intro w'
                      go_simp
                      with_reducible rfl
                    rotate_left
                    · simp only [Act.put, List.setIfInBounds_toArray, List.set_cons_zero, List.set_cons_succ, i64_w, i32_w]
                      rfl
                    refine pure_ (i := 10) (N := some 36) (v := ?_) (a' := ?_) #[true, true, true, true, true, true, true, true, true, true, true, false, false, false, false, false, false, false, false, false, false, false, false, false, false, false, false, false, false, false, false, false, false] rfl rfl (any_of HT_.out (by kernel_rfl)) (fun _ _ _ h => h) (Or.inl ⟨by rfl, ?_⟩) ?_ ?_
                    rotate_left
                    · intro w'
                      go_simp
                      with_reducible rfl
                    rotate_left
                    · simp only [Act.put, List.setIfInBounds_toArray, List.set_cons_zero, List.set_cons_succ, i64_w, i32_w]
                      rfl
                    refine pure_ (i := 11) (N := some 37) (v := ?_) (a' := ?_) #[true, true, true, true, true, true, true, true, true, true, true, true, false, false, false, false, false, false, false, false, false, false, false, false, false, false, false, false, false, false, false, false, false] rfl rfl (any_of HT_.out (by kernel_rfl)) (fun _ _ _ h => h) (Or.inl ⟨by rfl, ?_⟩) ?_ ?_
                    rotate_left
                    · intro w'
                      go_simp
                      with_reducible rfl
                    rotate_left
                    · simp only [Act.put, List.setIfInBounds_toArray, List.set_cons_zero, List.set_cons_succ, i64_w, i32_w]
                      rfl
                    refine pure_ (i := 12) (N := some 38) (v := ?_) (a' := ?_) #[true, true, true, true, true, true, true, true, true, true, true, true, true, false, false, false, false, false, false, false, false, false, false, false, false, false, false, false, false, false, false, false, false] rfl rfl (any_of HT_.out (by kernel_rfl)) (fun _ _ _ h => h) (Or.inl ⟨by rfl, ?_⟩) ?_ ?_
                    rotate_left
                    · intro w'
                      go_simp
                      with_reducible rfl
                    rotate_left
                    · simp only [Act.put, List.setIfInBounds_toArray, List.set_cons_zero, List.set_cons_succ, i64_w, i32_w]
                      rfl
                    refine pure_ (i := 13) (N := some 39) (v := ?_) (a' := ?_) #[true, true, true, true, true, true, true, true, true, true, true, true, true, true, false, false, false, false, false, false, false, false, false, false, false, false, false, false, false, false, false, false, false] rfl rfl (any_of HT_.out (by kernel_rfl)) (fun _ _ _ h => h) (Or.inl ⟨by rfl, ?_⟩) ?_ ?_
                    rotate_left
                    · intro w'
                      go_simp
                      with_reducible rfl
                    rotate_left
                    · simp only [Act.put, List.setIfInBounds_toArray, List.set_cons_zero, List.set_cons_succ, i64_w, i32_w]
                      rfl
                    refine pure_ (i := 14) (N := some 40) (v := ?_) (a' := ?_) #[true, true, true, true, true, true, true, true, true, true, true, true, true, true, true, false, false, false, false, false, false, false, false, false, false, false, false, false, false, false, false, false, false] rfl rfl (any_of HT_.out (by kernel_rfl)) (fun _ _ _ h => h) (Or.inl ⟨by rfl, ?_⟩) ?_ ?_
                    rotate_left
                    · intro w'
                      go_simp
                      with_reducible rfl
                    rotate_left
                    · simp only [Act.put, List.setIfInBounds_toArray, List.set_cons_zero, List.set_cons_succ, i64_w, i32_w]
                      rfl
                    refine pure_ (i := 15) (N := some 41) (v := ?_) (a' := ?_) #[true, true, true, true, true, true, true, true, true, true, true, true, true, true, true, true, false, false, false, false, false, false, false, false, false, false, false, false, false, false, false, false, false] rfl rfl (any_of HT_.out (by kernel_rfl)) (fun _ _ _ h => h) (Or.inl ⟨by rfl, ?_⟩) ?_ ?_
                    rotate_left
                    · intro w'
                      go_simp
                      with_reducible rfl
                    rotate_left
                    · simp only [Act.put, List.setIfInBounds_toArray, List.set_cons_zero, List.set_cons_succ, i64_w, i32_w]
                      rfl
                    refine pure_ (i := 16) (N := some 42) (v := ?_) (a' := ?_) #[true, true, true, true, true, true, true, true, true, true, true, true, true, true, true, true, true, false, false, false, false, false, false, false, false, false, false, false, false, false, false, false, false] rfl rfl (any_of HT_.out (by kernel_rfl)) (fun _ _ _ h => h) (Or.inl ⟨by rfl, ?_⟩) ?_ ?_
                    rotate_left
                    · intro w'
                      go_simp
                      with_reducible rfl
                    rotate_left
                    · simp only [Act.put, List.setIfInBounds_toArray, List.set_cons_zero, List.set_cons_succ, i64_w, i32_w]
                      rfl
                    refine take_ (i := 17) (N := some 43) (v := ?_) (a' := ?_) #[true, true, true, true, true, true, true, true, true, true, true, true, true, true, true, true, true, true, false, false, false, false, false, false, false, false, false, false, false, false, false, false, false] rfl rfl (take_ofW HT_.out HW_.out (by kernel_rfl)) (fun _ _ _ h => h) (Or.inl ⟨by rfl, ?_⟩) hHeld ?_ ?_
                    rotate_left
                    · rintro w' ⟨s0, s1, s2, s3, s4, s5, s6, s7⟩
                      go_simp
                      with_reducible rfl
                    rotate_left
                    · simp only [Act.put, List.setIfInBounds_toArray, List.set_cons_zero, List.set_cons_succ, i64_w, i32_w]
                      rfl
                    refine pure_ (i := 18) (N := some 44) (v := ?_) (a' := ?_) #[true, true, true, true, true, true, true, true, true, true, true, true, true, true, true, true, true, true, true, false, false, false, false, false, false, false, false, false, false, false, false, false, false] rfl rfl (any_of HT_.out (by kernel_rfl)) (fun _ _ _ h => h) (Or.inl ⟨by rfl, ?_⟩) ?_ ?_
                    rotate_left
                    · intro w'
                      go_simp
                      with_reducible rfl
                    rotate_left
                    · simp only [Act.put, List.setIfInBounds_toArray, List.set_cons_zero, List.set_cons_succ, i64_w, i32_w]
                      rfl
                    refine take_ (i := 19) (N := some 45) (v := ?_) (a' := ?_) #[true, true, true, true, true, true, true, true, true, true, true, true, true, true, true, true, true, true, true, true, false, false, false, false, false, false, false, false, false, false, false, false, false] rfl rfl (take_ofW HT_.out HW_.out (by kernel_rfl)) (fun _ _ _ h => h) (Or.inl ⟨by rfl, ?_⟩) hHeld ?_ ?_
                    rotate_left
                    · rintro w' ⟨s0, s1, s2, s3, s4, s5, s6, s7⟩
                      go_simp
                      with_reducible rfl
                    rotate_left
                    · simp only [Act.put, List.setIfInBounds_toArray, List.set_cons_zero, List.set_cons_succ, i64_w, i32_w]
                      rfl
                    refine pure_ (i := 20) (N := some 46) (v := ?_) (a' := ?_) #[true, true, true, true, true, true, true, true, true, true, true, true, true, true, true, true, true, true, true, true, true, false, false, false, false, false, false, false, false, false, false, false, false] rfl rfl (any_of HT_.out (by kernel_rfl)) (fun _ _ _ h => h) (Or.inl ⟨by rfl, ?_⟩) ?_ ?_
                    rotate_left
                    · intro w'
                      go_simp
                      with_reducible rfl
                    rotate_left
                    · simp only [Act.put, List.setIfInBounds_toArray, List.set_cons_zero, List.set_cons_succ, i64_w, i32_w]
                      rfl
                    refine take_ (i := 21) (N := some 47) (v := ?_) (a' := ?_) #[true, true, true, true, true, true, true, true, true, true, true, true, true, true, true, true, true, true, true, true, true, true, false, false, false, false, false, false, false, false, false, false, false] rfl rfl (take_ofW HT_.out HW_.out (by kernel_rfl)) (fun _ _ _ h => h) (Or.inl ⟨by rfl, ?_⟩) hHeld ?_ ?_
                    rotate_left
                    · rintro w' ⟨s0, s1, s2, s3, s4, s5, s6, s7⟩
                      go_simp
                      with_reducible rfl
                    rotate_left
                    · simp only [Act.put, List.setIfInBounds_toArray, List.set_cons_zero, List.set_cons_succ, i64_w, i32_w]
                      rfl
                    refine pure_ (i := 22) (N := some 48) (v := ?_) (a' := ?_) #[true, true, true, true, true, true, true, true, true, true, true, true, true, true, true, true, true, true, true, true, true, true, true, false, false, false, false, false, false, false, false, false, false] rfl rfl (any_of HT_.out (by kernel_rfl)) (fun _ _ _ h => h) (Or.inl ⟨by rfl, ?_⟩) ?_ ?_
                    rotate_left
                    · intro w'
                      go_simp
                      with_reducible rfl
                    rotate_left
                    · simp only [Act.put, List.setIfInBounds_toArray, List.set_cons_zero, List.set_cons_succ, i64_w, i32_w]
                      rfl
                    refine pure_ (i := 23) (N := some 49) (v := ?_) (a' := ?_) #[true, true, true, true, true, true, true, true, true, true, true, true, true, true, true, true, true, true, true, true, true, true, true, true, false, false, false, false, false, false, false, false, false] rfl rfl (any_of HT_.out (by kernel_rfl)) (fun _ _ _ h => h) (Or.inl ⟨by rfl, ?_⟩) ?_ ?_
                    rotate_left
                    · intro w'
                      go_simp
                      with_reducible rfl
                    rotate_left
                    · simp only [Act.put, List.setIfInBounds_toArray, List.set_cons_zero, List.set_cons_succ, i64_w, i32_w]
                      rfl
                    refine pure_ (i := 24) (N := some 50) (v := ?_) (a' := ?_) #[true, true, true, true, true, true, true, true, true, true, true, true, true, true, true, true, true, true, true, true, true, true, true, true, true, false, false, false, false, false, false, false, false] rfl rfl (any_of HT_.out (by kernel_rfl)) (fun _ _ _ h => h) (Or.inl ⟨by rfl, ?_⟩) ?_ ?_
                    rotate_left
                    · intro w'
                      go_simp
                      with_reducible rfl
                    rotate_left
                    · simp only [Act.put, List.setIfInBounds_toArray, List.set_cons_zero, List.set_cons_succ, i64_w, i32_w]
                      rfl
                    refine pure_ (i := 25) (N := some 51) (v := ?_) (a' := ?_) #[true, true, true, true, true, true, true, true, true, true, true, true, true, true, true, true, true, true, true, true, true, true, true, true, true, true, false, false, false, false, false, false, false] rfl rfl (any_of HT_.out (by kernel_rfl)) (fun _ _ _ h => h) (Or.inl ⟨by rfl, ?_⟩) ?_ ?_
                    rotate_left
                    · intro w'
                      go_simp
                      with_reducible rfl
                    rotate_left
                    · simp only [Act.put, List.setIfInBounds_toArray, List.set_cons_zero, List.set_cons_succ, i64_w, i32_w]
                      rfl
                    refine pure_ (i := 26) (N := some 52) (v := undef) (a' := ?_) #[true, true, true, true, true, true, true, true, true, true, true, true, true, true, true, true, true, true, true, true, true, true, true, true, true, true, true, false, false, false, false, false, false] rfl rfl (any_of HT_.out (by kernel_rfl)) (fun _ _ _ h => h) (Or.inr ⟨by rfl, rfl⟩) ?_ ?_
                    rotate_left
                    · simp only [Act.put, List.setIfInBounds_toArray, List.set_cons_zero, List.set_cons_succ, i64_w, i32_w]
                      rfl
                    refine pure_ (i := 27) (N := some 53) (v := undef) (a' := ?_) #[true, true, true, true, true, true, true, true, true, true, true, true, true, true, true, true, true, true, true, true, true, true, true, true, true, true, true, true, false, false, false, false, false] rfl rfl (any_of HT_.out (by kernel_rfl)) (fun _ _ _ h => h) (Or.inr ⟨by rfl, rfl⟩) ?_ ?_
                    rotate_left
                    · simp only [Act.put, List.setIfInBounds_toArray, List.set_cons_zero, List.set_cons_succ, i64_w, i32_w]
                      rfl
                    refine pure_ (i := 28) (N := some 54) (v := undef) (a' := ?_) #[true, true, true, true, true, true, true, true, true, true, true, true, true, true, true, true, true, true, true, true, true, true, true, true, true, true, true, true, true, false, false, false, false] rfl rfl (any_of HT_.out (by kernel_rfl)) (fun _ _ _ h => h) (Or.inr ⟨by rfl, rfl⟩) ?_ ?_
                    rotate_left
                    · simp only [Act.put, List.setIfInBounds_toArray, List.set_cons_zero, List.set_cons_succ, i64_w, i32_w]
                      rfl
                    refine pure_ (i := 29) (N := some 55) (v := undef) (a' := ?_) #[true, true, true, true, true, true, true, true, true, true, true, true, true, true, true, true, true, true, true, true, true, true, true, true, true, true, true, true, true, true, false, false, false] rfl rfl (any_of HT_.out (by kernel_rfl)) (fun _ _ _ h => h) (Or.inr ⟨by rfl, rfl⟩) ?_ ?_
                    rotate_left
                    · simp only [Act.put, List.setIfInBounds_toArray, List.set_cons_zero, List.set_cons_succ, i64_w, i32_w]
                      rfl
                    refine pure_ (i := 30) (N := some 56) (v := undef) (a' := ?_) #[true, true, true, true, true, true, true, true, true, true, true, true, true, true, true, true, true, true, true, true, true, true, true, true, true, true, true, true, true, true, true, false, false] rfl rfl (any_of HT_.out (by kernel_rfl)) (fun _ _ _ h => h) (Or.inr ⟨by rfl, rfl⟩) ?_ ?_
                    rotate_left
                    · simp only [Act.put, List.setIfInBounds_toArray, List.set_cons_zero, List.set_cons_succ, i64_w, i32_w]
                      rfl
                    refine pure_ (i := 31) (N := some 57) (v := undef) (a' := ?_) #[true, true, true, true, true, true, true, true, true, true, true, true, true, true, true, true, true, true, true, true, true, true, true, true, true, true, true, true, true, true, true, true, false] rfl rfl (any_of HT_.out (by kernel_rfl)) (fun _ _ _ h => h) (Or.inr ⟨by rfl, rfl⟩) ?_ ?_
                    rotate_left
                    · simp only [Act.put, List.setIfInBounds_toArray, List.set_cons_zero, List.set_cons_succ, i64_w, i32_w]
                      rfl
                    refine pure_ (i := 32) (N := some 58) (v := ?_) (a' := ?_) #[true, true, true, true, true, true, true, true, true, true, true, true, true, true, true, true, true, true, true, true, true, true, true, true, true, true, true, true, true, true, true, true, true] rfl rfl (any_of HT_.out (by kernel_rfl)) (fun _ _ _ h => h) (Or.inl ⟨by rfl, ?_⟩) ?_ ?_
                    rotate_left
                    · intro w'
                      go_simp
                      with_reducible rfl
                    rotate_left
                    · simp only [Act.put, List.setIfInBounds_toArray, List.set_cons_zero, List.set_cons_succ, i64_w, i32_w]
                      rfl
                    refine done_ (done_of HT_.out (by kernel_rfl)) ?_
                    go_wp2_with fail
                    go_meet
                    case rel => exact ⟨congrArg Value.bool HV.out.symm, ⟨BZ.out⟩⟩
                · have hj0b : decide ((0 : Int) < (j : Int)) = false := decide_eq_false hj0
                  have hj0c : decide (0 < j) = false := decide_eq_false (by omega)
                  have HV := Aside0.mk (show (!(honestAt n l es j)) = decide (m < 0) by
                    have hz2 : rd (truthAt n l es (j + 1)) (rd_T56 es (j : Int)).f1 = 0 := by
                      rw [HRE.out, show j = 0 by omega, truthAt, List.take_zero, List.foldl_nil, row0]
                      simp only [rd, List.getD_eq_getElem?_getD, List.getElem?_replicate]
                      split <;> rfl
                    rw [honestAt_zero (by rw [HX.out]; exact HO.out) hz2]; exact HMN.out)
                  clear hj0
                  refine start_ (n := 33) (S := fun w' => w'.cell? ⟨gl, 0, none⟩ = some (.int .i64 n) ∧ w'.cell? ⟨gl, 1, none⟩ = some (.slice A l.length c) ∧ w'.cell? ⟨ge, 0, none⟩ = some (.int .i64 x.f0) ∧ w'.cell? ⟨ge, 1, none⟩ = some (.int .i64 x.f1) ∧ w'.cell? ⟨ge, 2, none⟩ = some (.int .i64 x.f2) ∧ w'.cell? (adt.add j) = some (.slice Ar (truthAt n l es (j + 1)).length cr)) (ds := []) #[false, false, false, false, false, false, false, false, false, false, false, false, false, false, false, false, false, false, false, false, false, false, false, false, false, false, false, false, false, false, false, false, false] (by kernel_rfl) rfl rfl ⟨hcl0, hcl1, hce0, hce1, hce2, hcy⟩ (fun hHeld => ?_); refine with_tabW ho_tab7 ho_bits7 (fun HT_ HW_ => ?_)
                  refine take_ (i := 0) (N := some 26) (v := ?_) (a' := ?_) #[true, false, false, false, false, false, false, false, false, false, false, false, false, false, false, false, false, false, false, false, false, false, false, false, false, false, false, false, false, false, false, false, false] rfl rfl (take_ofW HT_.out HW_.out (by kernel_rfl)) (fun _ _ _ h => h) (Or.inl ⟨by rfl, ?_⟩) hHeld ?_ ?_
                  rotate_left
                  · rintro w' ⟨s0, s1, s2, s3, s4, s5⟩
                    go_simp
                    with_reducible rfl
                  rotate_left
                  · simp only [Act.put, List.setIfInBounds_toArray, List.set_cons_zero, List.set_cons_succ, i64_w, i32_w]
                    rfl
                  refine take_ (i := 1) (N := some 27) (v := ?_) (a' := ?_) #[true, true, false, false, false, false, false, false, false, false, false, false, false, false, false, false, false, false, false, false, false, false, false, false, false, false, false, false, false, false, false, false, false] rfl rfl (take_ofW HT_.out HW_.out (by kernel_rfl)) (fun _ _ _ h => h) (Or.inl ⟨by rfl, ?_⟩) hHeld ?_ ?_
                  rotate_left
                  · rintro w' ⟨s0, s1, s2, s3, s4, s5⟩
                    go_simp
                    with_reducible rfl
                  rotate_left
                  · simp only [Act.put, List.setIfInBounds_toArray, List.set_cons_zero, List.set_cons_succ, i64_w, i32_w]
                    rfl
                  refine one_ (i := 2) (N := some 28) #[true, true, true, false, false, false, false, false, false, false, false, false, false, false, false, false, false, false, false, false, false, false, false, false, false, false, false, false, false, false, false, false, false] rfl rfl (one_of HT_.out (by kernel_rfl)) (by decide) (fun K hK => ?_)
                  refine goes_ Try.func36 (by kernel_rfl) rfl #[.agg #[.int .i64 n, .slice A l.length c], .agg #[.int .i64 x.f0, .int .i64 x.f1, .int .i64 x.f2]] (by rfl) rfl rfl (by (try simp only [List.map_toArray, List.map_cons, List.map_nil]); first | done | rfl | (simp only [List.length_drop, List.length_take]; rfl)) ?_
                  with_reducible refine (ev_at x.f0 x.f1 x.f2 HO.out (Kd.C_below HR.out BD.out) HC.out).mono ?_; rintro e w9 ⟨rfl, hb⟩
                  refine ⟨_, rfl, ?_⟩
                  have BZ := Aside0.mk (below_step BR.out hb)
                  refine hK.out _ _ ⟨pw_cell_below hb hHeld.1, pw_cell_below hb hHeld.2.1, pw_cell_below hb hHeld.2.2.1, pw_cell_below hb hHeld.2.2.2.1, pw_cell_below hb hHeld.2.2.2.2.1, pw_cell_below hb hHeld.2.2.2.2.2⟩ (fun hHeld => ?_)
                  clear hK K
                  refine norm_ (a' := ?_) ?_ ?_
                  rotate_left
                  · show Act.put _ (some 28) _ = _
                    simp only [Act.put, List.setIfInBounds_toArray, List.set_cons_zero, List.set_cons_succ, i64_w, i32_w]
                    rfl
                  refine pure_ (i := 3) (N := some 29) (v := ?_) (a' := ?_) #[true, true, true, true, false, false, false, false, false, false, false, false, false, false, false, false, false, false, false, false, false, false, false, false, false, false, false, false, false, false, false, false, false] rfl rfl (any_of HT_.out (by kernel_rfl)) (fun _ _ _ h => h) (Or.inl ⟨by rfl, ?_⟩) ?_ ?_
                  rotate_left
                  · intro w'
                    go_simp
                    with_reducible rfl
                  rotate_left
                  · simp only [Act.put, List.setIfInBounds_toArray, List.set_cons_zero, List.set_cons_succ, i64_w, i32_w]
                    rfl
                  refine pure_ (i := 4) (N := some 30) (v := ?_) (a' := ?_) #[true, true, true, true, true, false, false, false, false, false, false, false, false, false, false, false, false, false, false, false, false, false, false, false, false, false, false, false, false, false, false, false, false] rfl rfl (any_of HT_.out (by kernel_rfl)) (fun _ _ _ h => h) (Or.inl ⟨by rfl, ?_⟩) ?_ ?_
                  rotate_left
                  · intro w'
                    go_simp
                    with_reducible rfl
                  rotate_left
                  · simp only [Act.put, List.setIfInBounds_toArray, List.set_cons_zero, List.set_cons_succ, i64_w, i32_w]
                    rfl
                  refine pure_ (i := 5) (N := some 31) (v := ?_) (a' := ?_) #[true, true, true, true, true, true, false, false, false, false, false, false, false, false, false, false, false, false, false, false, false, false, false, false, false, false, false, false, false, false, false, false, false] rfl rfl (any_of HT_.out (by kernel_rfl)) (fun _ _ _ h => h) (Or.inl ⟨by rfl, ?_⟩) ?_ ?_
                  rotate_left
                  · intro w'
                    go_simp
                    with_reducible rfl
                  rotate_left
                  · simp only [Act.put, List.setIfInBounds_toArray, List.set_cons_zero, List.set_cons_succ, i64_w, i32_w]
                    rfl
                  refine take_ (i := 6) (N := some 32) (v := ?_) (a' := ?_) #[true, true, true, true, true, true, true, false, false, false, false, false, false, false, false, false, false, false, false, false, false, false, false, false, false, false, false, false, false, false, false, false, false] rfl rfl (take_ofW HT_.out HW_.out (by kernel_rfl)) (fun _ _ _ h => h) (Or.inl ⟨by rfl, ?_⟩) hHeld ?_ ?_
                  rotate_left
                  · rintro w' ⟨s0, s1, s2, s3, s4, s5⟩
                    go_simp
                    with_reducible rfl
                  rotate_left
                  · simp only [Act.put, List.setIfInBounds_toArray, List.set_cons_zero, List.set_cons_succ, i64_w, i32_w]
                    rfl
                  refine pure_ (i := 7) (N := some 33) (v := ?_) (a' := ?_) #[true, true, true, true, true, true, true, true, false, false, false, false, false, false, false, false, false, false, false, false, false, false, false, false, false, false, false, false, false, false, false, false, false] rfl rfl (any_of HT_.out (by kernel_rfl)) (fun _ _ _ h => h) (Or.inl ⟨by rfl, ?_⟩) ?_ ?_
                  rotate_left
                  · intro w'
                    go_simp
                    with_reducible rfl
                  rotate_left
                  · simp only [Act.put, List.setIfInBounds_toArray, List.set_cons_zero, List.set_cons_succ, i64_w, i32_w]
                    rfl
                  refine pure_ (i := 8) (N := some 34) (v := ?_) (a' := ?_) #[true, true, true, true, true, true, true, true, true, false, false, false, false, false, false, false, false, false, false, false, false, false, false, false, false, false, false, false, false, false, false, false, false] rfl rfl (any_of HT_.out (by kernel_rfl)) (fun _ _ _ h => h) (Or.inl ⟨by rfl, ?_⟩) ?_ ?_
                  rotate_left
                  · intro w'
                    go_simp
                    with_reducible rfl
                  rotate_left
                  · simp only [Act.put, List.setIfInBounds_toArray, List.set_cons_zero, List.set_cons_succ, i64_w, i32_w]
                    rfl
                  refine pure_ (i := 9) (N := some 35) (v := ?_) (a' := ?_) #[true, true, true, true, true, true, true, true, true, true, false, false, false, false, false, false, false, false, false, false, false, false, false, false, false, false, false, false, false, false, false, false, false] rfl rfl (any_of HT_.out (by kernel_rfl)) (fun _ _ _ h => h) (Or.inl ⟨by rfl, ?_⟩) ?_ ?_
                  rotate_left
                  · intro w'
                    go_simp
                    with_reducible rfl
                  rotate_left
                  · simp only [Act.put, List.setIfInBounds_toArray, List.set_cons_zero, List.set_cons_succ, i64_w, i32_w]
                    rfl
                  refine pure_ (i := 10) (N := some 36) (v := ?_) (a' := ?_) #[true, true, true, true, true, true, true, true, true, true, true, false, false, false, false, false, false, false, false, false, false, false, false, false, false, false, false, false, false, false, false, false, false] rfl rfl (any_of HT_.out (by kernel_rfl)) (fun _ _ _ h => h) (Or.inl ⟨by rfl, ?_⟩) ?_ ?_
                  rotate_left
                  · intro w'
                    go_simp
                    with_reducible rfl
                  rotate_left
                  · simp only [Act.put, List.setIfInBounds_toArray, List.set_cons_zero, List.set_cons_succ, i64_w, i32_w]
                    rfl
                  refine pure_ (i := 11) (N := some 37) (v := ?_) (a' := ?_) #[true, true, true, true, true, true, true, true, true, true, true, true, false, false, false, false, false, false, false, false, false, false, false, false, false, false, false, false, false, false, false, false, false] rfl rfl (any_of HT_.out (by kernel_rfl)) (fun _ _ _ h => h) (Or.inl ⟨by rfl, ?_⟩) ?_ ?_
                  rotate_left
                  · intro w'
                    go_simp
                    with_reducible rfl
                  rotate_left
                  · simp only [Act.put, List.setIfInBounds_toArray, List.set_cons_zero, List.set_cons_succ, i64_w, i32_w]
                    rfl
                  refine pure_ (i := 12) (N := some 38) (v := ?_) (a' := ?_) #[true, true, true, true, true, true, true, true, true, true, true, true, true, false, false, false, false, false, false, false, false, false, false, false, false, false, false, false, false, false, false, false, false] rfl rfl (any_of HT_.out (by kernel_rfl)) (fun _ _ _ h => h) (Or.inl ⟨by rfl, ?_⟩) ?_ ?_
                  rotate_left
                  · intro w'
                    go_simp
                    with_reducible rfl
                  rotate_left
                  · simp only [Act.put, List.setIfInBounds_toArray, List.set_cons_zero, List.set_cons_succ, i64_w, i32_w]
                    rfl
                  refine pure_ (i := 13) (N := some 39) (v := undef) (a' := ?_) #[true, true, true, true, true, true, true, true, true, true, true, true, true, true, false, false, false, false, false, false, false, false, false, false, false, false, false, false, false, false, false, false, false] rfl rfl (any_of HT_.out (by kernel_rfl)) (fun _ _ _ h => h) (Or.inr ⟨by rfl, rfl⟩) ?_ ?_
                  rotate_left
                  · simp only [Act.put, List.setIfInBounds_toArray, List.set_cons_zero, List.set_cons_succ, i64_w, i32_w]
                    rfl
                  refine pure_ (i := 14) (N := some 40) (v := undef) (a' := ?_) #[true, true, true, true, true, true, true, true, true, true, true, true, true, true, true, false, false, false, false, false, false, false, false, false, false, false, false, false, false, false, false, false, false] rfl rfl (any_of HT_.out (by kernel_rfl)) (fun _ _ _ h => h) (Or.inr ⟨by rfl, rfl⟩) ?_ ?_
                  rotate_left
                  · simp only [Act.put, List.setIfInBounds_toArray, List.set_cons_zero, List.set_cons_succ, i64_w, i32_w]
                    rfl
                  refine pure_ (i := 15) (N := some 41) (v := undef) (a' := ?_) #[true, true, true, true, true, true, true, true, true, true, true, true, true, true, true, true, false, false, false, false, false, false, false, false, false, false, false, false, false, false, false, false, false] rfl rfl (any_of HT_.out (by kernel_rfl)) (fun _ _ _ h => h) (Or.inr ⟨by rfl, rfl⟩) ?_ ?_
                  rotate_left
                  · simp only [Act.put, List.setIfInBounds_toArray, List.set_cons_zero, List.set_cons_succ, i64_w, i32_w]
                    rfl
                  refine pure_ (i := 16) (N := some 42) (v := undef) (a' := ?_) #[true, true, true, true, true, true, true, true, true, true, true, true, true, true, true, true, true, false, false, false, false, false, false, false, false, false, false, false, false, false, false, false, false] rfl rfl (any_of HT_.out (by kernel_rfl)) (fun _ _ _ h => h) (Or.inr ⟨by rfl, rfl⟩) ?_ ?_
                  rotate_left
                  · simp only [Act.put, List.setIfInBounds_toArray, List.set_cons_zero, List.set_cons_succ, i64_w, i32_w]
                    rfl
                  refine pure_ (i := 17) (N := some 43) (v := undef) (a' := ?_) #[true, true, true, true, true, true, true, true, true, true, true, true, true, true, true, true, true, true, false, false, false, false, false, false, false, false, false, false, false, false, false, false, false] rfl rfl (any_of HT_.out (by kernel_rfl)) (fun _ _ _ h => h) (Or.inr ⟨by rfl, rfl⟩) ?_ ?_
                  rotate_left
                  · simp only [Act.put, List.setIfInBounds_toArray, List.set_cons_zero, List.set_cons_succ, i64_w, i32_w]
                    rfl
                  refine pure_ (i := 18) (N := some 44) (v := undef) (a' := ?_) #[true, true, true, true, true, true, true, true, true, true, true, true, true, true, true, true, true, true, true, false, false, false, false, false, false, false, false, false, false, false, false, false, false] rfl rfl (any_of HT_.out (by kernel_rfl)) (fun _ _ _ h => h) (Or.inr ⟨by rfl, rfl⟩) ?_ ?_
                  rotate_left
                  · simp only [Act.put, List.setIfInBounds_toArray, List.set_cons_zero, List.set_cons_succ, i64_w, i32_w]
                    rfl
                  refine pure_ (i := 19) (N := some 45) (v := undef) (a' := ?_) #[true, true, true, true, true, true, true, true, true, true, true, true, true, true, true, true, true, true, true, true, false, false, false, false, false, false, false, false, false, false, false, false, false] rfl rfl (any_of HT_.out (by kernel_rfl)) (fun _ _ _ h => h) (Or.inr ⟨by rfl, rfl⟩) ?_ ?_
                  rotate_left
                  · simp only [Act.put, List.setIfInBounds_toArray, List.set_cons_zero, List.set_cons_succ, i64_w, i32_w]
                    rfl
                  refine pure_ (i := 20) (N := some 46) (v := undef) (a' := ?_) #[true, true, true, true, true, true, true, true, true, true, true, true, true, true, true, true, true, true, true, true, true, false, false, false, false, false, false, false, false, false, false, false, false] rfl rfl (any_of HT_.out (by kernel_rfl)) (fun _ _ _ h => h) (Or.inr ⟨by rfl, rfl⟩) ?_ ?_
                  rotate_left
                  · simp only [Act.put, List.setIfInBounds_toArray, List.set_cons_zero, List.set_cons_succ, i64_w, i32_w]
                    rfl
                  refine pure_ (i := 21) (N := some 47) (v := undef) (a' := ?_) #[true, true, true, true, true, true, true, true, true, true, true, true, true, true, true, true, true, true, true, true, true, true, false, false, false, false, false, false, false, false, false, false, false] rfl rfl (any_of HT_.out (by kernel_rfl)) (fun _ _ _ h => h) (Or.inr ⟨by rfl, rfl⟩) ?_ ?_
                  rotate_left
                  · simp only [Act.put, List.setIfInBounds_toArray, List.set_cons_zero, List.set_cons_succ, i64_w, i32_w]
                    rfl
                  refine pure_ (i := 22) (N := some 48) (v := undef) (a' := ?_) #[true, true, true, true, true, true, true, true, true, true, true, true, true, true, true, true, true, true, true, true, true, true, true, false, false, false, false, false, false, false, false, false, false] rfl rfl (any_of HT_.out (by kernel_rfl)) (fun _ _ _ h => h) (Or.inr ⟨by rfl, rfl⟩) ?_ ?_
                  rotate_left
                  · simp only [Act.put, List.setIfInBounds_toArray, List.set_cons_zero, List.set_cons_succ, i64_w, i32_w]
                    rfl
                  refine pure_ (i := 23) (N := some 49) (v := ?_) (a' := ?_) #[true, true, true, true, true, true, true, true, true, true, true, true, true, true, true, true, true, true, true, true, true, true, true, true, false, false, false, false, false, false, false, false, false] rfl rfl (any_of HT_.out (by kernel_rfl)) (fun _ _ _ h => h) (Or.inl ⟨by rfl, ?_⟩) ?_ ?_
                  rotate_left
                  · intro w'
                    go_simp
                    with_reducible rfl
                  rotate_left
                  · simp only [Act.put, List.setIfInBounds_toArray, List.set_cons_zero, List.set_cons_succ, i64_w, i32_w]
                    rfl
                  refine pure_ (i := 24) (N := some 50) (v := ?_) (a' := ?_) #[true, true, true, true, true, true, true, true, true, true, true, true, true, true, true, true, true, true, true, true, true, true, true, true, true, false, false, false, false, false, false, false, false] rfl rfl (any_of HT_.out (by kernel_rfl)) (fun _ _ _ h => h) (Or.inl ⟨by rfl, ?_⟩) ?_ ?_
                  rotate_left
                  · intro w'
                    go_simp
                    with_reducible rfl
                  rotate_left
                  · simp only [Act.put, List.setIfInBounds_toArray, List.set_cons_zero, List.set_cons_succ, i64_w, i32_w]
                    rfl
                  refine pure_ (i := 25) (N := some 51) (v := ?_) (a' := ?_) #[true, true, true, true, true, true, true, true, true, true, true, true, true, true, true, true, true, true, true, true, true, true, true, true, true, true, false, false, false, false, false, false, false] rfl rfl (any_of HT_.out (by kernel_rfl)) (fun _ _ _ h => h) (Or.inl ⟨by rfl, ?_⟩) ?_ ?_
                  rotate_left
                  · intro w'
                    go_simp
                    with_reducible rfl
                  rotate_left
                  · simp only [Act.put, List.setIfInBounds_toArray, List.set_cons_zero, List.set_cons_succ, i64_w, i32_w]
                    rfl
                  refine pure_ (i := 26) (N := some 52) (v := ?_) (a' := ?_) #[true, true, true, true, true, true, true, true, true, true, true, true, true, true, true, true, true, true, true, true, true, true, true, true, true, true, true, false, false, false, false, false, false] rfl rfl (any_of HT_.out (by kernel_rfl)) (fun _ _ _ h => h) (Or.inl ⟨by rfl, ?_⟩) ?_ ?_
                  rotate_left
                  · intro w'
                    go_simp
                    with_reducible rfl
                  rotate_left
                  · simp only [Act.put, List.setIfInBounds_toArray, List.set_cons_zero, List.set_cons_succ, i64_w, i32_w]
                    rfl
                  refine pure_ (i := 27) (N := some 53) (v := ?_) (a' := ?_) #[true, true, true, true, true, true, true, true, true, true, true, true, true, true, true, true, true, true, true, true, true, true, true, true, true, true, true, true, false, false, false, false, false] rfl rfl (any_of HT_.out (by kernel_rfl)) (fun _ _ _ h => h) (Or.inl ⟨by rfl, ?_⟩) ?_ ?_
                  rotate_left
                  · intro w'
                    go_simp
                    with_reducible rfl
                  rotate_left
                  · simp only [Act.put, List.setIfInBounds_toArray, List.set_cons_zero, List.set_cons_succ, i64_w, i32_w]
                    rfl
                  refine pure_ (i := 28) (N := some 54) (v := ?_) (a' := ?_) #[true, true, true, true, true, true, true, true, true, true, true, true, true, true, true, true, true, true, true, true, true, true, true, true, true, true, true, true, true, false, false, false, false] rfl rfl (any_of HT_.out (by kernel_rfl)) (fun _ _ _ h => h) (Or.inl ⟨by rfl, ?_⟩) ?_ ?_
                  rotate_left
                  · intro w'
                    go_simp
                    with_reducible rfl
                  rotate_left
                  · simp only [Act.put, List.setIfInBounds_toArray, List.set_cons_zero, List.set_cons_succ, i64_w, i32_w]
                    rfl
                  refine take_ (i := 29) (N := some 55) (v := ?_) (a' := ?_) #[true, true, true, true, true, true, true, true, true, true, true, true, true, true, true, true, true, true, true, true, true, true, true, true, true, true, true, true, true, true, false, false, false] rfl rfl (take_ofW HT_.out HW_.out (by kernel_rfl)) (fun _ _ _ h => h) (Or.inl ⟨by rfl, ?_⟩) hHeld ?_ ?_
                  rotate_left
                  · rintro w' ⟨s0, s1, s2, s3, s4, s5⟩
                    go_simp
                    with_reducible rfl
                  rotate_left
                  · simp only [Act.put, List.setIfInBounds_toArray, List.set_cons_zero, List.set_cons_succ, i64_w, i32_w]
                    rfl
                  refine one_ (i := 30) (N := some 56) #[true, true, true, true, true, true, true, true, true, true, true, true, true, true, true, true, true, true, true, true, true, true, true, true, true, true, true, true, true, true, true, false, false] rfl rfl (one_of HT_.out (by kernel_rfl)) (by decide) (fun K hK => ?_)
                  refine goes_ Try.func106 (by kernel_rfl) rfl #[.slice Ar (truthAt n l es (j + 1)).length cr] (by rfl) rfl rfl (by (try simp only [List.map_toArray, List.map_cons, List.map_nil]); first | done | rfl | (simp only [List.length_drop, List.length_take]; rfl)) ?_
                  with_reducible refine (min_at HM.out (Kd.C_below CR.out BZ.out) LR.out H0.out H63.out).mono ?_; rintro e w10 ⟨rfl, hb⟩
                  refine ⟨_, rfl, ?_⟩
                  have BZ := Aside0.mk (below_step BZ.out hb)
                  refine hK.out _ _ ⟨pw_cell_below hb hHeld.1, pw_cell_below hb hHeld.2.1, pw_cell_below hb hHeld.2.2.1, pw_cell_below hb hHeld.2.2.2.1, pw_cell_below hb hHeld.2.2.2.2.1, pw_cell_below hb hHeld.2.2.2.2.2⟩ (fun hHeld => ?_)
                  clear hK K
                  refine norm_ (a' := ?_) ?_ ?_
                  rotate_left
                  · show Act.put _ (some 56) _ = _
                    simp only [Act.put, List.setIfInBounds_toArray, List.set_cons_zero, List.set_cons_succ, i64_w, i32_w]
                    rfl
                  refine pure_ (i := 31) (N := some 57) (v := ?_) (a' := ?_) #[true, true, true, true, true, true, true, true, true, true, true, true, true, true, true, true, true, true, true, true, true, true, true, true, true, true, true, true, true, true, true, true, false] rfl rfl (any_of HT_.out (by kernel_rfl)) (fun _ _ _ h => h) (Or.inl ⟨by rfl, ?_⟩) ?_ ?_
                  rotate_left
                  · intro w'
                    go_simp
                    with_reducible rfl
                  rotate_left
                  · simp only [Act.put, List.setIfInBounds_toArray, List.set_cons_zero, List.set_cons_succ, i64_w, i32_w]
                    rfl
                  refine pure_ (i := 32) (N := some 58) (v := ?_) (a' := ?_) #[true, true, true, true, true, true, true, true, true, true, true, true, true, true, true, true, true, true, true, true, true, true, true, true, true, true, true, true, true, true, true, true, true] rfl rfl (any_of HT_.out (by kernel_rfl)) (fun _ _ _ h => h) (Or.inl ⟨by rfl, ?_⟩) ?_ ?_
                  rotate_left
                  · intro w'
                    go_simp
                    with_reducible rfl
                  rotate_left
                  · simp only [Act.put, List.setIfInBounds_toArray, List.set_cons_zero, List.set_cons_succ, i64_w, i32_w]
                    rfl
                  refine done_ (done_of HT_.out (by kernel_rfl)) ?_
                  go_wp2_with fail
                  go_meet
                  case rel => exact ⟨congrArg Value.bool HV.out.symm, ⟨BZ.out⟩⟩
              · have h5b : (x.f0 == 5) = false := beq_eq_false_iff_ne.mpr h5
                have HV := Aside0.mk (show (!(honestAt n l es j)) = decide (m < 0) by rw [honestAt_other (by rw [HX.out]; exact HO.out) (by rw [HX.out]; exact h5)]; exact HMN.out)
                clear h5
                refine start_ (n := 33) (S := fun w' => w'.cell? ⟨gl, 0, none⟩ = some (.int .i64 n) ∧ w'.cell? ⟨gl, 1, none⟩ = some (.slice A l.length c) ∧ w'.cell? ⟨ge, 0, none⟩ = some (.int .i64 x.f0) ∧ w'.cell? ⟨ge, 1, none⟩ = some (.int .i64 x.f1) ∧ w'.cell? ⟨ge, 2, none⟩ = some (.int .i64 x.f2) ∧ w'.cell? (adt.add j) = some (.slice Ar (truthAt n l es (j + 1)).length cr)) (ds := []) #[false, false, false, false, false, false, false, false, false, false, false, false, false, false, false, false, false, false, false, false, false, false, false, false, false, false, false, false, false, false, false, false, false] (by kernel_rfl) rfl rfl ⟨hcl0, hcl1, hce0, hce1, hce2, hcy⟩ (fun hHeld => ?_); refine with_tabW ho_tab7 ho_bits7 (fun HT_ HW_ => ?_)
                refine take_ (i := 0) (N := some 26) (v := ?_) (a' := ?_) #[true, false, false, false, false, false, false, false, false, false, false, false, false, false, false, false, false, false, false, false, false, false, false, false, false, false, false, false, false, false, false, false, false] rfl rfl (take_ofW HT_.out HW_.out (by kernel_rfl)) (fun _ _ _ h => h) (Or.inl ⟨by rfl, ?_⟩) hHeld ?_ ?_
                rotate_left
                · rintro w' ⟨s0, s1, s2, s3, s4, s5⟩
                  go_simp
                  with_reducible rfl
                rotate_left
                · simp only [Act.put, List.setIfInBounds_toArray, List.set_cons_zero, List.set_cons_succ, i64_w, i32_w]
                  rfl
                refine take_ (i := 1) (N := some 27) (v := ?_) (a' := ?_) #[true, true, false, false, false, false, false, false, false, false, false, false, false, false, false, false, false, false, false, false, false, false, false, false, false, false, false, false, false, false, false, false, false] rfl rfl (take_ofW HT_.out HW_.out (by kernel_rfl)) (fun _ _ _ h => h) (Or.inl ⟨by rfl, ?_⟩) hHeld ?_ ?_
                rotate_left
                · rintro w' ⟨s0, s1, s2, s3, s4, s5⟩
                  go_simp
                  with_reducible rfl
                rotate_left
                · simp only [Act.put, List.setIfInBounds_toArray, List.set_cons_zero, List.set_cons_succ, i64_w, i32_w]
                  rfl
                refine one_ (i := 2) (N := some 28) #[true, true, true, false, false, false, false, false, false, false, false, false, false, false, false, false, false, false, false, false, false, false, false, false, false, false, false, false, false, false, false, false, false] rfl rfl (one_of HT_.out (by kernel_rfl)) (by decide) (fun K hK => ?_)
                refine goes_ Try.func36 (by kernel_rfl) rfl #[.agg #[.int .i64 n, .slice A l.length c], .agg #[.int .i64 x.f0, .int .i64 x.f1, .int .i64 x.f2]] (by rfl) rfl rfl (by (try simp only [List.map_toArray, List.map_cons, List.map_nil]); first | done | rfl | (simp only [List.length_drop, List.length_take]; rfl)) ?_
                with_reducible refine (ev_at x.f0 x.f1 x.f2 HO.out (Kd.C_below HR.out BD.out) HC.out).mono ?_; rintro e w9 ⟨rfl, hb⟩
                refine ⟨_, rfl, ?_⟩
                have BZ := Aside0.mk (below_step BR.out hb)
                refine hK.out _ _ ⟨pw_cell_below hb hHeld.1, pw_cell_below hb hHeld.2.1, pw_cell_below hb hHeld.2.2.1, pw_cell_below hb hHeld.2.2.2.1, pw_cell_below hb hHeld.2.2.2.2.1, pw_cell_below hb hHeld.2.2.2.2.2⟩ (fun hHeld => ?_)
                clear hK K
                refine norm_ (a' := ?_) ?_ ?_
                rotate_left
                · show Act.put _ (some 28) _ = _
                  simp only [Act.put, List.setIfInBounds_toArray, List.set_cons_zero, List.set_cons_succ, i64_w, i32_w]
                  rfl
                refine pure_ (i := 3) (N := some 29) (v := ?_) (a' := ?_) #[true, true, true, true, false, false, false, false, false, false, false, false, false, false, false, false, false, false, false, false, false, false, false, false, false, false, false, false, false, false, false, false, false] rfl rfl (any_of HT_.out (by kernel_rfl)) (fun _ _ _ h => h) (Or.inl ⟨by rfl, ?_⟩) ?_ ?_
                rotate_left
                · intro w'
                  go_simp
                  with_reducible rfl
                rotate_left
                · simp only [Act.put, List.setIfInBounds_toArray, List.set_cons_zero, List.set_cons_succ, i64_w, i32_w]
                  rfl
                refine pure_ (i := 4) (N := some 30) (v := ?_) (a' := ?_) #[true, true, true, true, true, false, false, false, false, false, false, false, false, false, false, false, false, false, false, false, false, false, false, false, false, false, false, false, false, false, false, false, false] rfl rfl (any_of HT_.out (by kernel_rfl)) (fun _ _ _ h => h) (Or.inl ⟨by rfl, ?_⟩) ?_ ?_
                rotate_left
                · intro w'
                  go_simp
                  with_reducible rfl
                rotate_left
                · simp only [Act.put, List.setIfInBounds_toArray, List.set_cons_zero, List.set_cons_succ, i64_w, i32_w]
                  rfl
                refine pure_ (i := 5) (N := some 31) (v := ?_) (a' := ?_) #[true, true, true, true, true, true, false, false, false, false, false, false, false, false, false, false, false, false, false, false, false, false, false, false, false, false, false, false, false, false, false, false, false] rfl rfl (any_of HT_.out (by kernel_rfl)) (fun _ _ _ h => h) (Or.inl ⟨by rfl, ?_⟩) ?_ ?_
                rotate_left
                · intro w'
                  go_simp
                  with_reducible rfl
                rotate_left
                · simp only [Act.put, List.setIfInBounds_toArray, List.set_cons_zero, List.set_cons_succ, i64_w, i32_w]
                  rfl
                refine take_ (i := 6) (N := some 32) (v := ?_) (a' := ?_) #[true, true, true, true, true, true, true, false, false, false, false, false, false, false, false, false, false, false, false, false, false, false, false, false, false, false, false, false, false, false, false, false, false] rfl rfl (take_ofW HT_.out HW_.out (by kernel_rfl)) (fun _ _ _ h => h) (Or.inl ⟨by rfl, ?_⟩) hHeld ?_ ?_
                rotate_left
                · rintro w' ⟨s0, s1, s2, s3, s4, s5⟩
                  go_simp
                  with_reducible rfl
                rotate_left
                · simp only [Act.put, List.setIfInBounds_toArray, List.set_cons_zero, List.set_cons_succ, i64_w, i32_w]
                  rfl
                refine pure_ (i := 7) (N := some 33) (v := ?_) (a' := ?_) #[true, true, true, true, true, true, true, true, false, false, false, false, false, false, false, false, false, false, false, false, false, false, false, false, false, false, false, false, false, false, false, false, false] rfl rfl (any_of HT_.out (by kernel_rfl)) (fun _ _ _ h => h) (Or.inl ⟨by rfl, ?_⟩) ?_ ?_
                rotate_left
                · intro w'
                  go_simp
                  with_reducible rfl
                rotate_left
                · simp only [Act.put, List.setIfInBounds_toArray, List.set_cons_zero, List.set_cons_succ, i64_w, i32_w]
                  rfl
                refine pure_ (i := 8) (N := some 34) (v := ?_) (a' := ?_) #[true, true, true, true, true, true, true, true, true, false, false, false, false, false, false, false, false, false, false, false, false, false, false, false, false, false, false, false, false, false, false, false, false] rfl rfl (any_of HT_.out (by kernel_rfl)) (fun _ _ _ h => h) (Or.inl ⟨by rfl, ?_⟩) ?_ ?_
                rotate_left
                · intro w'
                  go_simp
                  with_reducible rfl
                rotate_left
                · simp only [Act.put, List.setIfInBounds_toArray, List.set_cons_zero, List.set_cons_succ, i64_w, i32_w]
                  rfl
                refine pure_ (i := 9) (N := some 35) (v := undef) (a' := ?_) #[true, true, true, true, true, true, true, true, true, true, false, false, false, false, false, false, false, false, false, false, false, false, false, false, false, false, false, false, false, false, false, false, false] rfl rfl (any_of HT_.out (by kernel_rfl)) (fun _ _ _ h => h) (Or.inr ⟨by rfl, rfl⟩) ?_ ?_
                rotate_left
                · simp only [Act.put, List.setIfInBounds_toArray, List.set_cons_zero, List.set_cons_succ, i64_w, i32_w]
                  rfl
                refine pure_ (i := 10) (N := some 36) (v := undef) (a' := ?_) #[true, true, true, true, true, true, true, true, true, true, true, false, false, false, false, false, false, false, false, false, false, false, false, false, false, false, false, false, false, false, false, false, false] rfl rfl (any_of HT_.out (by kernel_rfl)) (fun _ _ _ h => h) (Or.inr ⟨by rfl, rfl⟩) ?_ ?_
                rotate_left
                · simp only [Act.put, List.setIfInBounds_toArray, List.set_cons_zero, List.set_cons_succ, i64_w, i32_w]
                  rfl
                refine pure_ (i := 11) (N := some 37) (v := ?_) (a' := ?_) #[true, true, true, true, true, true, true, true, true, true, true, true, false, false, false, false, false, false, false, false, false, false, false, false, false, false, false, false, false, false, false, false, false] rfl rfl (any_of HT_.out (by kernel_rfl)) (fun _ _ _ h => h) (Or.inl ⟨by rfl, ?_⟩) ?_ ?_
                rotate_left
                · intro w'
                  go_simp
                  with_reducible rfl
                rotate_left
                · simp only [Act.put, List.setIfInBounds_toArray, List.set_cons_zero, List.set_cons_succ, i64_w, i32_w]
                  rfl
                refine pure_ (i := 12) (N := some 38) (v := ?_) (a' := ?_) #[true, true, true, true, true, true, true, true, true, true, true, true, true, false, false, false, false, false, false, false, false, false, false, false, false, false, false, false, false, false, false, false, false] rfl rfl (any_of HT_.out (by kernel_rfl)) (fun _ _ _ h => h) (Or.inl ⟨by rfl, ?_⟩) ?_ ?_
                rotate_left
                · intro w'
                  go_simp
                  with_reducible rfl
                rotate_left
                · simp only [Act.put, List.setIfInBounds_toArray, List.set_cons_zero, List.set_cons_succ, i64_w, i32_w]
                  rfl
                refine pure_ (i := 13) (N := some 39) (v := undef) (a' := ?_) #[true, true, true, true, true, true, true, true, true, true, true, true, true, true, false, false, false, false, false, false, false, false, false, false, false, false, false, false, false, false, false, false, false] rfl rfl (any_of HT_.out (by kernel_rfl)) (fun _ _ _ h => h) (Or.inr ⟨by rfl, rfl⟩) ?_ ?_
                rotate_left
                · simp only [Act.put, List.setIfInBounds_toArray, List.set_cons_zero, List.set_cons_succ, i64_w, i32_w]
                  rfl
                refine pure_ (i := 14) (N := some 40) (v := undef) (a' := ?_) #[true, true, true, true, true, true, true, true, true, true, true, true, true, true, true, false, false, false, false, false, false, false, false, false, false, false, false, false, false, false, false, false, false] rfl rfl (any_of HT_.out (by kernel_rfl)) (fun _ _ _ h => h) (Or.inr ⟨by rfl, rfl⟩) ?_ ?_
                rotate_left
                · simp only [Act.put, List.setIfInBounds_toArray, List.set_cons_zero, List.set_cons_succ, i64_w, i32_w]
                  rfl
                refine pure_ (i := 15) (N := some 41) (v := undef) (a' := ?_) #[true, true, true, true, true, true, true, true, true, true, true, true, true, true, true, true, false, false, false, false, false, false, false, false, false, false, false, false, false, false, false, false, false] rfl rfl (any_of HT_.out (by kernel_rfl)) (fun _ _ _ h => h) (Or.inr ⟨by rfl, rfl⟩) ?_ ?_
                rotate_left
                · simp only [Act.put, List.setIfInBounds_toArray, List.set_cons_zero, List.set_cons_succ, i64_w, i32_w]
                  rfl
                refine pure_ (i := 16) (N := some 42) (v := undef) (a' := ?_) #[true, true, true, true, true, true, true, true, true, true, true, true, true, true, true, true, true, false, false, false, false, false, false, false, false, false, false, false, false, false, false, false, false] rfl rfl (any_of HT_.out (by kernel_rfl)) (fun _ _ _ h => h) (Or.inr ⟨by rfl, rfl⟩) ?_ ?_
                rotate_left
                · simp only [Act.put, List.setIfInBounds_toArray, List.set_cons_zero, List.set_cons_succ, i64_w, i32_w]
                  rfl
                refine pure_ (i := 17) (N := some 43) (v := undef) (a' := ?_) #[true, true, true, true, true, true, true, true, true, true, true, true, true, true, true, true, true, true, false, false, false, false, false, false, false, false, false, false, false, false, false, false, false] rfl rfl (any_of HT_.out (by kernel_rfl)) (fun _ _ _ h => h) (Or.inr ⟨by rfl, rfl⟩) ?_ ?_
                rotate_left
                · simp only [Act.put, List.setIfInBounds_toArray, List.set_cons_zero, List.set_cons_succ, i64_w, i32_w]
                  rfl
                refine pure_ (i := 18) (N := some 44) (v := undef) (a' := ?_) #[true, true, true, true, true, true, true, true, true, true, true, true, true, true, true, true, true, true, true, false, false, false, false, false, false, false, false, false, false, false, false, false, false] rfl rfl (any_of HT_.out (by kernel_rfl)) (fun _ _ _ h => h) (Or.inr ⟨by rfl, rfl⟩) ?_ ?_
                rotate_left
                · simp only [Act.put, List.setIfInBounds_toArray, List.set_cons_zero, List.set_cons_succ, i64_w, i32_w]
                  rfl
                refine pure_ (i := 19) (N := some 45) (v := undef) (a' := ?_) #[true, true, true, true, true, true, true, true, true, true, true, true, true, true, true, true, true, true, true, true, false, false, false, false, false, false, false, false, false, false, false, false, false] rfl rfl (any_of HT_.out (by kernel_rfl)) (fun _ _ _ h => h) (Or.inr ⟨by rfl, rfl⟩) ?_ ?_
                rotate_left
                · simp only [Act.put, List.setIfInBounds_toArray, List.set_cons_zero, List.set_cons_succ, i64_w, i32_w]
                  rfl
                refine pure_ (i := 20) (N := some 46) (v := undef) (a' := ?_) #[true, true, true, true, true, true, true, true, true, true, true, true, true, true, true, true, true, true, true, true, true, false, false, false, false, false, false, false, false, false, false, false, false] rfl rfl (any_of HT_.out (by kernel_rfl)) (fun _ _ _ h => h) (Or.inr ⟨by rfl, rfl⟩) ?_ ?_
                rotate_left
                · simp only [Act.put, List.setIfInBounds_toArray, List.set_cons_zero, List.set_cons_succ, i64_w, i32_w]
                  rfl
                refine pure_ (i := 21) (N := some 47) (v := undef) (a' := ?_) #[true, true, true, true, true, true, true, true, true, true, true, true, true, true, true, true, true, true, true, true, true, true, false, false, false, false, false, false, false, false, false, false, false] rfl rfl (any_of HT_.out (by kernel_rfl)) (fun _ _ _ h => h) (Or.inr ⟨by rfl, rfl⟩) ?_ ?_
                rotate_left
                · simp only [Act.put, List.setIfInBounds_toArray, List.set_cons_zero, List.set_cons_succ, i64_w, i32_w]
                  rfl
                refine pure_ (i := 22) (N := some 48) (v := undef) (a' := ?_) #[true, true, true, true, true, true, true, true, true, true, true, true, true, true, true, true, true, true, true, true, true, true, true, false, false, false, false, false, false, false, false, false, false] rfl rfl (any_of HT_.out (by kernel_rfl)) (fun _ _ _ h => h) (Or.inr ⟨by rfl, rfl⟩) ?_ ?_
                rotate_left
                · simp only [Act.put, List.setIfInBounds_toArray, List.set_cons_zero, List.set_cons_succ, i64_w, i32_w]
                  rfl
                refine pure_ (i := 23) (N := some 49) (v := ?_) (a' := ?_) #[true, true, true, true, true, true, true, true, true, true, true, true, true, true, true, true, true, true, true, true, true, true, true, true, false, false, false, false, false, false, false, false, false] rfl rfl (any_of HT_.out (by kernel_rfl)) (fun _ _ _ h => h) (Or.inl ⟨by rfl, ?_⟩) ?_ ?_
                rotate_left
                · intro w'
                  go_simp
                  with_reducible rfl
                rotate_left
                · simp only [Act.put, List.setIfInBounds_toArray, List.set_cons_zero, List.set_cons_succ, i64_w, i32_w]
                  rfl
                refine pure_ (i := 24) (N := some 50) (v := ?_) (a' := ?_) #[true, true, true, true, true, true, true, true, true, true, true, true, true, true, true, true, true, true, true, true, true, true, true, true, true, false, false, false, false, false, false, false, false] rfl rfl (any_of HT_.out (by kernel_rfl)) (fun _ _ _ h => h) (Or.inl ⟨by rfl, ?_⟩) ?_ ?_
                rotate_left
                · intro w'
                  go_simp
                  with_reducible rfl
                rotate_left
                · simp only [Act.put, List.setIfInBounds_toArray, List.set_cons_zero, List.set_cons_succ, i64_w, i32_w]
                  rfl
                refine pure_ (i := 25) (N := some 51) (v := ?_) (a' := ?_) #[true, true, true, true, true, true, true, true, true, true, true, true, true, true, true, true, true, true, true, true, true, true, true, true, true, true, false, false, false, false, false, false, false] rfl rfl (any_of HT_.out (by kernel_rfl)) (fun _ _ _ h => h) (Or.inl ⟨by rfl, ?_⟩) ?_ ?_
                rotate_left
                · intro w'
                  go_simp
                  with_reducible rfl
                rotate_left
                · simp only [Act.put, List.setIfInBounds_toArray, List.set_cons_zero, List.set_cons_succ, i64_w, i32_w]
                  rfl
                refine pure_ (i := 26) (N := some 52) (v := ?_) (a' := ?_) #[true, true, true, true, true, true, true, true, true, true, true, true, true, true, true, true, true, true, true, true, true, true, true, true, true, true, true, false, false, false, false, false, false] rfl rfl (any_of HT_.out (by kernel_rfl)) (fun _ _ _ h => h) (Or.inl ⟨by rfl, ?_⟩) ?_ ?_
                rotate_left
                · intro w'
                  go_simp
                  with_reducible rfl
                rotate_left
                · simp only [Act.put, List.setIfInBounds_toArray, List.set_cons_zero, List.set_cons_succ, i64_w, i32_w]
                  rfl
                refine pure_ (i := 27) (N := some 53) (v := ?_) (a' := ?_) #[true, true, true, true, true, true, true, true, true, true, true, true, true, true, true, true, true, true, true, true, true, true, true, true, true, true, true, true, false, false, false, false, false] rfl rfl (any_of HT_.out (by kernel_rfl)) (fun _ _ _ h => h) (Or.inl ⟨by rfl, ?_⟩) ?_ ?_
                rotate_left
                · intro w'
                  go_simp
                  with_reducible rfl
                rotate_left
                · simp only [Act.put, List.setIfInBounds_toArray, List.set_cons_zero, List.set_cons_succ, i64_w, i32_w]
                  rfl
                refine pure_ (i := 28) (N := some 54) (v := ?_) (a' := ?_) #[true, true, true, true, true, true, true, true, true, true, true, true, true, true, true, true, true, true, true, true, true, true, true, true, true, true, true, true, true, false, false, false, false] rfl rfl (any_of HT_.out (by kernel_rfl)) (fun _ _ _ h => h) (Or.inl ⟨by rfl, ?_⟩) ?_ ?_
                rotate_left
                · intro w'
                  go_simp
                  with_reducible rfl
                rotate_left
                · simp only [Act.put, List.setIfInBounds_toArray, List.set_cons_zero, List.set_cons_succ, i64_w, i32_w]
                  rfl
                refine take_ (i := 29) (N := some 55) (v := ?_) (a' := ?_) #[true, true, true, true, true, true, true, true, true, true, true, true, true, true, true, true, true, true, true, true, true, true, true, true, true, true, true, true, true, true, false, false, false] rfl rfl (take_ofW HT_.out HW_.out (by kernel_rfl)) (fun _ _ _ h => h) (Or.inl ⟨by rfl, ?_⟩) hHeld ?_ ?_
                rotate_left
                · rintro w' ⟨s0, s1, s2, s3, s4, s5⟩
                  go_simp
                  with_reducible rfl
                rotate_left
                · simp only [Act.put, List.setIfInBounds_toArray, List.set_cons_zero, List.set_cons_succ, i64_w, i32_w]
                  rfl
                refine one_ (i := 30) (N := some 56) #[true, true, true, true, true, true, true, true, true, true, true, true, true, true, true, true, true, true, true, true, true, true, true, true, true, true, true, true, true, true, true, false, false] rfl rfl (one_of HT_.out (by kernel_rfl)) (by decide) (fun K hK => ?_)
                refine goes_ Try.func106 (by kernel_rfl) rfl #[.slice Ar (truthAt n l es (j + 1)).length cr] (by rfl) rfl rfl (by (try simp only [List.map_toArray, List.map_cons, List.map_nil]); first | done | rfl | (simp only [List.length_drop, List.length_take]; rfl)) ?_
                with_reducible refine (min_at HM.out (Kd.C_below CR.out BZ.out) LR.out H0.out H63.out).mono ?_; rintro e w10 ⟨rfl, hb⟩
                refine ⟨_, rfl, ?_⟩
                have BZ := Aside0.mk (below_step BZ.out hb)
                refine hK.out _ _ ⟨pw_cell_below hb hHeld.1, pw_cell_below hb hHeld.2.1, pw_cell_below hb hHeld.2.2.1, pw_cell_below hb hHeld.2.2.2.1, pw_cell_below hb hHeld.2.2.2.2.1, pw_cell_below hb hHeld.2.2.2.2.2⟩ (fun hHeld => ?_)
                clear hK K
                refine norm_ (a' := ?_) ?_ ?_
                rotate_left
                · show Act.put _ (some 56) _ = _
                  simp only [Act.put, List.setIfInBounds_toArray, List.set_cons_zero, List.set_cons_succ, i64_w, i32_w]
                  rfl
                refine pure_ (i := 31) (N := some 57) (v := ?_) (a' := ?_) #[true, true, true, true, true, true, true, true, true, true, true, true, true, true, true, true, true, true, true, true, true, true, true, true, true, true, true, true, true, true, true, true, false] rfl rfl (any_of HT_.out (by kernel_rfl)) (fun _ _ _ h => h) (Or.inl ⟨by rfl, ?_⟩) ?_ ?_
                rotate_left
                · intro w'
                  go_simp
                  with_reducible rfl
                rotate_left
                · simp only [Act.put, List.setIfInBounds_toArray, List.set_cons_zero, List.set_cons_succ, i64_w, i32_w]
                  rfl
                refine pure_ (i := 32) (N := some 58) (v := ?_) (a' := ?_) #[true, true, true, true, true, true, true, true, true, true, true, true, true, true, true, true, true, true, true, true, true, true, true, true, true, true, true, true, true, true, true, true, true] rfl rfl (any_of HT_.out (by kernel_rfl)) (fun _ _ _ h => h) (Or.inl ⟨by rfl, ?_⟩) ?_ ?_
                rotate_left
                · intro w'
                  go_simp
                  with_reducible rfl
                rotate_left
                · simp only [Act.put, List.setIfInBounds_toArray, List.set_cons_zero, List.set_cons_succ, i64_w, i32_w]
                  rfl
                refine done_ (done_of HT_.out (by kernel_rfl)) ?_
                go_wp2_with fail
                go_meet
                case rel => exact ⟨congrArg Value.bool HV.out.symm, ⟨BZ.out⟩⟩
          case rest =>
            obtain ⟨rfl, BW⟩ := hcut
            cases hh : honestAt n l es j with
            | true =>
              have HH := Aside0.mk hh
              clear hh
              go_wp2
              go_roundg gk
              case measure => omega
              case rel => exact ⟨j + 1, congrArg (Value.int .i64) (wrap_succ (by have := HE.out; omega)), ⟨by have := HJ.out; omega⟩, ⟨by rw [HF.out, honestFrom, HH.out, Bool.true_and]⟩, ⟨ST.out.up BW.out⟩⟩
            | false =>
              have HH := Aside0.mk hh
              clear hh
              go_wp2
              go_ret
              exact ⟨ret_b (show false = _ by rw [honest, HF.out, honestFrom, HH.out, Bool.false_and, Bool.and_false]), (ST.out.up BW.out).hB⟩
        · have hlt' : decide ((j : Int) < (es.length : Int)) = false := decide_eq_false (by omega)
          go_wp2
          go_ret
          have h0 : gk = 0 := by have := HJ.out; omega
          subst h0
          exact ⟨ret_b (show true = _ by rw [honest, HF.out, decide_eq_true HL.out, decide_eq_true HE.out]; rfl), ST.out.hB⟩
    · skip
      have b0 : (layoutOk n l != 0) = false := bne_eq_false_iff_eq.mpr hl
      have b1 : decide ((es.length : Int) > 2000) = true := decide_eq_true (by omega)
      have HV := Aside0.mk (show false = honest n l es by rw [honest, decide_eq_false he, Bool.and_false, Bool.false_and])
      clear hl he
      go_enter Try.func51, Try.ntmps51
      go_wp2_with (first | ((with_reducible refine gate_dst (N := 2) rfl ?_); refine box_event ?hg (N := 2) ?hd (cs := #[.int .i64 n, .slice A l.length c]) (t := 30) ?hr ?_; (case hd => rfl); (case hg => rfl); (case hr => first | (go_simp; done) | (go_simp; rfl)); intro gl el wl kl bl; have hcz0 := (blk_cell kl 0).trans (show (#[Value.int .i64 n, .slice A l.length c])[0]? = _ from rfl); have hcz1 := (blk_cell kl 1).trans (show (#[Value.int .i64 n, .slice A l.length c])[1]? = _ from rfl); have KL := Aside0.mk kl; have BL := Aside0.mk bl; have GL := Aside0.mk (show w.heap.size ≤ gl by rw [el]; exact Nat.le_refl _); clear kl bl el) | (go_at_call 25; refine (lay_is (Kd.C_below HR.out BL.out) HC.out).mono ?_; rintro e w1 ⟨rfl, hb⟩; have KL1 := Aside0.mk (blk_below KL.out hb); have BL1 := Aside0.mk (below_step BL.out hb); clear hb; have hc10 := (blk_cell KL1.out 0).trans (show (#[Value.int .i64 n, .slice A l.length c])[0]? = _ from rfl); have hc11 := (blk_cell KL1.out 1).trans (show (#[Value.int .i64 n, .slice A l.length c])[1]? = _ from rfl)))
      go_ret
      exact ⟨ret_b HV.out, BL1.out⟩
  · skip
    have b0 : (layoutOk n l != 0) = true := bne_iff_ne.mpr hl
    have HV := Aside0.mk (show false = honest n l es by rw [honest, decide_eq_false hl, Bool.false_and, Bool.false_and])
    clear hl
    go_enter Try.func51, Try.ntmps51
    go_wp2_with (first | ((with_reducible refine gate_dst (N := 2) rfl ?_); refine box_event ?hg (N := 2) ?hd (cs := #[.int .i64 n, .slice A l.length c]) (t := 30) ?hr ?_; (case hd => rfl); (case hg => rfl); (case hr => first | (go_simp; done) | (go_simp; rfl)); intro gl el wl kl bl; have hcz0 := (blk_cell kl 0).trans (show (#[Value.int .i64 n, .slice A l.length c])[0]? = _ from rfl); have hcz1 := (blk_cell kl 1).trans (show (#[Value.int .i64 n, .slice A l.length c])[1]? = _ from rfl); have KL := Aside0.mk kl; have BL := Aside0.mk bl; have GL := Aside0.mk (show w.heap.size ≤ gl by rw [el]; exact Nat.le_refl _); clear kl bl el) | (go_at_call 25; refine (lay_is (Kd.C_below HR.out BL.out) HC.out).mono ?_; rintro e w1 ⟨rfl, hb⟩; have KL1 := Aside0.mk (blk_below KL.out hb); have BL1 := Aside0.mk (below_step BL.out hb); clear hb; have hc10 := (blk_cell KL1.out 0).trans (show (#[Value.int .i64 n, .slice A l.length c])[0]? = _ from rfl); have hc11 := (blk_cell KL1.out 1).trans (show (#[Value.int .i64 n, .slice A l.length c])[1]? = _ from rfl)))
    go_ret
    exact ⟨ret_b HV.out, BL1.out⟩
end Go.Proofs.Ytpdnabhpkdchjaa.P
namespace Go.Proofs.Ytpdnabhpkdchjaa.P
open Go.RowKit Go.Proofs.YtpdnabhpkdchjaaW.PrintWords Go.Proofs.YtpdnabhpkdchjaaW.PrintLast
set_option linter.unusedVariables false
set_option linter.unusedSimpArgs false
instance dec154 : DecidableEq S154 := fun x y => decidable_of_iff (x.f0 = y.f0 ∧ x.f1 = y.f1 ∧ x.f2 = y.f2) (by cases x; cases y; simp)
end Go.Proofs.Ytpdnabhpkdchjaa.P
namespace Go.Proofs.Ytpdnabhpkdchjaa.P
open Go.RowKit Go.Proofs.YtpdnabhpkdchjaaW.PrintWords Go.Proofs.YtpdnabhpkdchjaaW.PrintLast Go.Proofs.YtpdnabhpkdchjaaW.PrintMore
attribute [local go_sem] max2_int min2_int max_two min_two max_three min_three max_four min_four
set_option linter.unusedVariables false
set_option linter.unusedSimpArgs false
def IsS116 (w0 W:World) (g:Nat) (f0:List Int) (f1:Int) (f2:Int):Prop:=∃ A0 c0,W.heap[g]?=some (.cells #[.slice A0 f0.length c0,.int .i64 f1,.int .u64 f2] 116 (0,0))∧w0.heap.size≤g∧Kd.C (Kd.int .u8) w0 A0 f0.length f0
theorem IsS116.grown {w0 W:World} {g:Nat} {f0:List Int} {f1:Int} {f2:Int} {W1:World} {row:Option Nat} (h:IsS116 w0 W g f0 f1 f2) (hw:W.grownBy W1 row) (hne:some g ≠ row):IsS116 w0 W1 g f0 f1 f2:=by
 obtain ⟨A0,c0,hb,hg,hr0⟩:=h
 exact ⟨A0,c0,blk_grown hb hw hne,hg,hr0⟩
theorem IsS116.kept {w0 W:World} {g:Nat} {f0:List Int} {f1:Int} {f2:Int} {W1:World} {S:Nat→Prop} (h:IsS116 w0 W g f0 f1 f2) (hk:Kept W W1 S) (hne:¬ S g):IsS116 w0 W1 g f0 f1 f2:=by
 obtain ⟨A0,c0,hb,hg,hr0⟩:=h
 exact ⟨A0,c0,blk_kept hb hk hne,hg,hr0⟩
theorem IsS116.below {w0 W:World} {g:Nat} {f0:List Int} {f1:Int} {f2:Int} {W1:World} (h:IsS116 w0 W g f0 f1 f2) (hw:Below W.heap.size W W1):IsS116 w0 W1 g f0 f1 f2:=h.grown (grown_of_below hw none) (by simp)
theorem IsS116.alloc {w0 W:World} {g:Nat} {f0:List Int} {f1:Int} {f2:Int} (h:IsS116 w0 W g f0 f1 f2) (o:Obj):IsS116 w0 (W.alloc o) g f0 f1 f2:=h.below (below_alloc (Below.refl _ _) o)
theorem IsS116.drewN {w0 W:World} {g:Nat} {f0:List Int} {f1:Int} {f2:Int} (h:IsS116 w0 W g f0 f1 f2) (m:Nat):IsS116 w0 (W.drewN m) g f0 f1 f2:=h
theorem IsS116.drew {w0 W:World} {g:Nat} {f0:List Int} {f1:Int} {f2:Int} (h:IsS116 w0 W g f0 f1 f2):IsS116 w0 W.drew g f0 f1 f2:=h
theorem IsS116.at_ {w0 W:World} {g:Nat} {f0:List Int} {f1:Int} {f2:Int} {w':World} {m:Nat} (hq:W.drewN m=w') (h:IsS116 w0 W g f0 f1 f2):IsS116 w0 w' g f0 f1 f2:=by subst hq;exact IsS116.drewN h m
theorem IsS116.apart {w0 W:World} {g:Nat} {f0:List Int} {f1:Int} {f2:Int} {α:Type} {d:Kd α} {e:Nat} {base:Nat} {ok:Nat→Prop} {v:Value} {xs:List α} (h:IsS116 w0 W g f0 f1 f2) (ho:d.R e W base ok v xs) (ht:∀ q,q ∈ e :: d.E→q ≠ 116):d.R e W base (fun k=>ok k∧k ≠ g) v xs:=by
 obtain ⟨A0,c0,hb,hg,hr0⟩:=h
 exact Kd.R_types ho hb ht
theorem IsS116.own_ne {w0 W:World} {g:Nat} {f0:List Int} {f1:Int} {f2:Int} {α:Type} {d:Kd α} {e:Nat} {base:Nat} {ok:Nat→Prop} {v:Value} {xs:List α} (h:IsS116 w0 W g f0 f1 f2) (ho:d.R e W base ok v xs) (ht:e ≠ 116):some g ≠ v.ownBlock:=by
 obtain ⟨A0,c0,hb,hg,hr0⟩:=h
 exact Kd.R_ne ho hb ht
theorem IsS116.lt {w0 W:World} {g:Nat} {f0:List Int} {f1:Int} {f2:Int} (h:IsS116 w0 W g f0 f1 f2):g<W.heap.size:=by
 obtain ⟨A0,c0,hb,hg,hr0⟩:=h
 exact blk_lt hb
theorem IsS116.ge {w0 W:World} {g:Nat} {f0:List Int} {f1:Int} {f2:Int} (h:IsS116 w0 W g f0 f1 f2):w0.heap.size≤g:=by
 obtain ⟨A0,c0,hb,hg,hr0⟩:=h
 exact hg
theorem IsS116.ne_blk {w0 W:World} {g:Nat} {f0:List Int} {f1:Int} {f2:Int} {a:Nat} {cs:Array Value} {t:TypeId} {fr:Nat × Nat} (h:IsS116 w0 W g f0 f1 f2) (hb2:W.heap[a]?=some (.cells cs t fr)) (ht:t ≠ 116):g ≠ a:=by
 obtain ⟨A0,c0,hb,hg,hr0⟩:=h
 rintro rfl
 rw [hb] at hb2
 injection hb2 with hb2
 injection hb2 with _ ht2
 exact ht ht2.symm
theorem IsS116.far {w0 W:World} {g:Nat} {f0:List Int} {f1:Int} {f2:Int} {p:Addr} (h:IsS116 w0 W g f0 f1 f2) (hne:g ≠ p.block) (u:Value):IsS116 w0 (W.setCell p u) g f0 f1 f2:=by
 obtain ⟨A0,c0,hb,hg,hr0⟩:=h
 exact ⟨A0,c0,blk_far hb hne u,hg,hr0⟩
theorem cellS116_0 {W:World} {g:Nat} {A0:Option Addr} {c0:Nat} {f0:List Int} {f1:Int} {f2:Int} (h:W.heap[g]?=some (.cells #[.slice A0 f0.length c0,.int .i64 f1,.int .u64 f2] 116 (0,0))):W.cell? ⟨g,0,none⟩=some (.slice A0 f0.length c0):=(blk_cell h 0).trans rfl
theorem cellS116_1 {W:World} {g:Nat} {A0:Option Addr} {c0:Nat} {f0:List Int} {f1:Int} {f2:Int} (h:W.heap[g]?=some (.cells #[.slice A0 f0.length c0,.int .i64 f1,.int .u64 f2] 116 (0,0))):W.cell? ⟨g,1,none⟩=some (.int .i64 f1):=(blk_cell h 1).trans rfl
theorem IsS116.set_1 {w0 W:World} {g:Nat} {f0:List Int} {f1:Int} {f2:Int} (h:IsS116 w0 W g f0 f1 f2) (x:Int):IsS116 w0 (W.setCell ⟨g,1,none⟩ (.int .i64 x)) g f0 x f2:=by
 obtain ⟨A0,c0,hb,hg,hr0⟩:=h
 exact ⟨A0,c0,by simpa using blk_set hb 1 (.int .i64 x),hg,hr0⟩
theorem cellS116_2 {W:World} {g:Nat} {A0:Option Addr} {c0:Nat} {f0:List Int} {f1:Int} {f2:Int} (h:W.heap[g]?=some (.cells #[.slice A0 f0.length c0,.int .i64 f1,.int .u64 f2] 116 (0,0))):W.cell? ⟨g,2,none⟩=some (.int .u64 f2):=(blk_cell h 2).trans rfl
theorem IsS116.set_2 {w0 W:World} {g:Nat} {f0:List Int} {f1:Int} {f2:Int} (h:IsS116 w0 W g f0 f1 f2) (x:Int):IsS116 w0 (W.setCell ⟨g,2,none⟩ (.int .u64 x)) g f0 f1 x:=by
 obtain ⟨A0,c0,hb,hg,hr0⟩:=h
 exact ⟨A0,c0,by simpa using blk_set hb 2 (.int .u64 x),hg,hr0⟩
def spec_l5Cur_next.f (s0_0:List Int) (s0_1:Int) (s0_2:Int):Option (Int × Int × Int):=if s0_1<(s0_0.length:Int) then (if 0≤s0_1 then (some (wrap64 (rd s0_0 s0_1),wrap64 (s0_1+1),IntKind.u64.wrap ((IntKind.u64.wrap ((IntKind.u64.wrap (s0_2 * 6364136223846793005))+(IntKind.u64.wrap (rd s0_0 s0_1))))+1442695040888963407))) else (none)) else (some (wrap64 (Go.bits .and .u64 ((IntKind.u64.wrap ((IntKind.u64.wrap (s0_2 * 6364136223846793005))+1442695040888963407)) / 1099511627776) 255),wrap64 (s0_1+1),IntKind.u64.wrap ((IntKind.u64.wrap (s0_2 * 6364136223846793005))+1442695040888963407)))
set_option maxHeartbeats 8000000 in
set_option maxRecDepth 100000 in
theorem spec_l5Cur_next.calls (g:Nat) (s0_0:List Int) (s0_1:Int) (s0_2:Int) (r1:Int) (r2:Int) (r3:Int) (w0 w:World) (hI:IsS116 w0 w g s0_0 s0_1 s0_2) (hB:Below w0.heap.size w0 w) (h:spec_l5Cur_next.f s0_0 s0_1 s0_2=some (r1,r2,r3)) :
  Calls Try.prog 133 #[.pointer (some ⟨g,0,none⟩)] w fun e w'=>e=.returned (.int .i64 r1)∧IsS116 w0 w' g s0_0 r2 r3∧Below w0.heap.size w0 w'∧KeepBut w w' g none:=by
 have HI0:=Aside0.mk hI
 have HK:=Aside0.mk (KeepBut.refl w g none)
 have HL:=Aside0.mk hB.size
 clear hI
 have HW0:=Aside0.mk hB.size
 have HB:=Aside0.mk hB
 clear hB
 have H:(if s0_1<(s0_0.length:Int) then (if 0≤s0_1 then (some (wrap64 (rd s0_0 s0_1),wrap64 (s0_1+1),IntKind.u64.wrap ((IntKind.u64.wrap ((IntKind.u64.wrap (s0_2 * 6364136223846793005))+(IntKind.u64.wrap (rd s0_0 s0_1))))+1442695040888963407))) else (none)) else (some (wrap64 (Go.bits .and .u64 ((IntKind.u64.wrap ((IntKind.u64.wrap (s0_2 * 6364136223846793005))+1442695040888963407)) / 1099511627776) 255),wrap64 (s0_1+1),IntKind.u64.wrap ((IntKind.u64.wrap (s0_2 * 6364136223846793005))+1442695040888963407))))=some (r1,r2,r3):=h
 clear h
 by_cases c2:s0_1<(s0_0.length:Int)
 ·rw [if_pos c2] at H
  have c2b0:decide (s0_1<(s0_0.length:Int))=true:=decide_eq_true c2
  clear c2
  by_cases c3:0≤s0_1
  ·rw [if_pos c3] at H
   have c3b0:decide (0≤s0_1)=true:=decide_eq_true c3
   clear c3
   simp only [Option.some.injEq,Prod.mk.injEq] at H
   obtain ⟨rfl,rfl,rfl⟩:=H
   obtain ⟨ASz4_0,cSz4_0,HGz4,hgz4,HSz4_0⟩:=HI0.out
   have hcz4_0:=cellS116_0 HGz4
   have hcz4_1:=cellS116_1 HGz4
   have hcz4_2:=cellS116_2 HGz4
   have hfz4_1:=blk_frozen HGz4 1
   have hfz4_2:=blk_frozen HGz4 2
   clear HGz4 hgz4
   have p152:0≤(s0_1:Int):=of_decide_eq_true (by first|(with_reducible assumption)|assumption)
   have q152:s0_1<(s0_0.length:Int):=of_decide_eq_true (by first|(with_reducible assumption)|assumption)
   obtain ⟨ad152,e152,hx152_0⟩:=Kd.at_int HSz4_0 s0_1 p152 q152
   cases e152
   replace hx152_0:=pw_cell_below HB.out hx152_0
   replace p152:=eq_true p152
   replace q152:=eq_true q152
   go_enter Try.func133,Try.ntmps133
   go_wp2
   repeat (go_quiet (fail);try go_wp2)
   go_ret
   exact ⟨by first|rfl|(simp [errW_none,errW_some] <;> rfl)|(simp [*,errW_none,errW_some] <;> rfl),by repeat (first|(with_reducible first|exact HI0.out|apply IsS116.alloc|apply IsS116.drewN|apply IsS116.drew|apply IsS116.set_1|apply IsS116.set_2)|exact HI0.out),by repeat (first|(with_reducible first|exact HB.out|apply below_alloc|apply pw_below_drewN|apply below_drew1|refine below_set ?_ (IsS116.ge HI0.out))|exact HB.out),by repeat (first|(with_reducible first|exact HK.out|apply KeepBut.set_|apply keep_drewN|apply keep_drew|apply keep_alloc)|exact HK.out)⟩
  rw [if_neg c3] at H
  exact absurd H (by simp)
 rw [if_neg c2] at H
 have c2b0:decide (s0_1<(s0_0.length:Int))=false:=decide_eq_false c2
 clear c2
 simp only [Option.some.injEq,Prod.mk.injEq] at H
 obtain ⟨rfl,rfl,rfl⟩:=H
 obtain ⟨ASz5_0,cSz5_0,HGz5,hgz5,HSz5_0⟩:=HI0.out
 have hcz5_0:=cellS116_0 HGz5
 have hcz5_1:=cellS116_1 HGz5
 have hcz5_2:=cellS116_2 HGz5
 have hfz5_1:=blk_frozen HGz5 1
 have hfz5_2:=blk_frozen HGz5 2
 clear HGz5 hgz5
 go_enter Try.func133,Try.ntmps133
 go_wp2
 repeat (go_quiet (fail);try go_wp2)
 go_ret
 exact ⟨by first|rfl|(simp [errW_none,errW_some] <;> rfl)|(simp [*,errW_none,errW_some] <;> rfl),by repeat (first|(with_reducible first|exact HI0.out|apply IsS116.alloc|apply IsS116.drewN|apply IsS116.drew|apply IsS116.set_1|apply IsS116.set_2)|exact HI0.out),by repeat (first|(with_reducible first|exact HB.out|apply below_alloc|apply pw_below_drewN|apply below_drew1|refine below_set ?_ (IsS116.ge HI0.out))|exact HB.out),by repeat (first|(with_reducible first|exact HK.out|apply KeepBut.set_|apply keep_drewN|apply keep_drew|apply keep_alloc)|exact HK.out)⟩
end Go.Proofs.Ytpdnabhpkdchjaa.P
namespace Go.Proofs.Ytpdnabhpkdchjaa.P
open Go.RowKit Go.Proofs.YtpdnabhpkdchjaaW.PrintWords Go.Proofs.YtpdnabhpkdchjaaW.PrintLast Go.Proofs.YtpdnabhpkdchjaaW.PrintMore
attribute [local go_sem] max2_int min2_int max_two min_two max_three min_three max_four min_four
set_option linter.unusedVariables false
set_option linter.unusedSimpArgs false
def spec_l5Cur_pick.f (s0_0:List Int) (s0_1:Int) (s0_2:Int) (a1:Int):Option (Int × Int × Int):=if a1≤1 then (some (0,s0_1,s0_2)) else ((spec_l5Cur_next.f s0_0 s0_1 s0_2).bind fun bt153=>(if a1 > 200 then ((spec_l5Cur_next.f s0_0 bt153.2.1 bt153.2.2).bind fun bt156=>(if a1=0 then (none) else (some (Int.tmod (wrap64 ((wrap64 (bt153.1 * 256))+bt156.1)) a1,bt156.2.1,bt156.2.2)))) else (if a1=0 then (none) else (some (Int.tmod bt153.1 a1,bt153.2.1,bt153.2.2)))))
set_option maxHeartbeats 8000000 in
set_option maxRecDepth 100000 in
theorem spec_l5Cur_pick.calls (g:Nat) (s0_0:List Int) (s0_1:Int) (s0_2:Int) (a1:Int) (r1:Int) (r2:Int) (r3:Int) (w0 w:World) (hI:IsS116 w0 w g s0_0 s0_1 s0_2) (hB:Below w0.heap.size w0 w) (h:spec_l5Cur_pick.f s0_0 s0_1 s0_2 a1=some (r1,r2,r3)) :
  Calls Try.prog 108 #[.pointer (some ⟨g,0,none⟩),.int .i64 a1] w fun e w'=>e=.returned (.int .i64 r1)∧IsS116 w0 w' g s0_0 r2 r3∧Below w0.heap.size w0 w'∧KeepBut w w' g none:=by
 have HI0:=Aside0.mk hI
 have HK:=Aside0.mk (KeepBut.refl w g none)
 have HL:=Aside0.mk hB.size
 clear hI
 have HW0:=Aside0.mk hB.size
 have HB:=Aside0.mk hB
 clear hB
 have H:(if a1≤1 then (some (0,s0_1,s0_2)) else ((spec_l5Cur_next.f s0_0 s0_1 s0_2).bind fun bt153=>(if a1 > 200 then ((spec_l5Cur_next.f s0_0 bt153.2.1 bt153.2.2).bind fun bt156=>(if a1=0 then (none) else (some (Int.tmod (wrap64 ((wrap64 (bt153.1 * 256))+bt156.1)) a1,bt156.2.1,bt156.2.2)))) else (if a1=0 then (none) else (some (Int.tmod bt153.1 a1,bt153.2.1,bt153.2.2))))))=some (r1,r2,r3):=h
 clear h
 by_cases c3:a1≤1
 ·rw [if_pos c3] at H
  have c3b0:decide (a1≤1)=true:=decide_eq_true c3
  clear c3
  simp only [Option.some.injEq,Prod.mk.injEq] at H
  obtain ⟨rfl,rfl,rfl⟩:=H
  go_enter Try.func108,Try.ntmps108
  go_wp2
  go_ret
  exact ⟨by first|rfl|(simp [errW_none,errW_some] <;> rfl)|(simp [*,errW_none,errW_some] <;> rfl),by repeat (first|(with_reducible first|exact HI0.out|apply IsS116.alloc|apply IsS116.drewN|apply IsS116.drew|apply IsS116.set_1|apply IsS116.set_2)|exact HI0.out),by repeat (first|(with_reducible first|exact HB.out|apply below_alloc|apply pw_below_drewN|apply below_drew1|refine below_set ?_ (IsS116.ge HI0.out))|exact HB.out),by repeat (first|(with_reducible first|exact HK.out|apply KeepBut.set_|apply keep_drewN|apply keep_drew|apply keep_alloc)|exact HK.out)⟩
 rw [if_neg c3] at H
 have c3b0:decide (a1≤1)=false:=decide_eq_false c3
 clear c3
 replace H:=Option.bind_eq_some_iff.mp H
 obtain ⟨⟨t153,t154,t155⟩,A40,H⟩:=H
 replace H:(if a1 > 200 then ((spec_l5Cur_next.f s0_0 t154 t155).bind fun bt156=>(if a1=0 then (none) else (some (Int.tmod (wrap64 ((wrap64 (t153 * 256))+bt156.1)) a1,bt156.2.1,bt156.2.2)))) else (if a1=0 then (none) else (some (Int.tmod t153 a1,t154,t155))))=some (r1,r2,r3):=H
 have A4:=Aside0.mk A40
 clear A40
 by_cases c5:a1 > 200
 ·rw [if_pos c5] at H
  have c5b0:decide (200<a1)=true:=decide_eq_true c5
  clear c5
  replace H:=Option.bind_eq_some_iff.mp H
  obtain ⟨⟨t156,t157,t158⟩,A60,H⟩:=H
  replace H:(if a1=0 then (none) else (some (Int.tmod (wrap64 ((wrap64 (t153 * 256))+t156)) a1,t157,t158)))=some (r1,r2,r3):=H
  have A6:=Aside0.mk A60
  clear A60
  by_cases c7:a1=0
  ·rw [if_pos c7] at H
   exact absurd H (by simp)
  rw [if_neg c7] at H
  have c7b0:(a1==0)=false:=beq_eq_false_iff_ne.mpr c7
  have c7b1:(a1 != 0)=true:=bne_iff_ne.mpr c7
  simp only [Option.some.injEq,Prod.mk.injEq] at H
  obtain ⟨rfl,rfl,rfl⟩:=H
  go_enter Try.func108,Try.ntmps108
  go_wp2_with (first|((with_reducible refine gate_callee (f:=133) rfl ?_);refine goesL_ (some 9) rfl rfl Try.func133 (by kernel_rfl) rfl #[.pointer (some ⟨g,0,none⟩)] rfl (by (try simp only [List.map_toArray,List.map_cons,List.map_nil]);first|done|rfl|(simp only [List.length_drop,List.length_take];rfl)) ?_;(with_reducible refine (spec_l5Cur_next.calls g s0_0 s0_1 s0_2 t153 t154 t155 w0 _ ?side1 ?side2 A4.out).mono ?_);(case side1=>repeat (first|(with_reducible first|exact HI0.out|apply IsS116.alloc|apply IsS116.drewN|apply IsS116.drew|apply IsS116.set_1|apply IsS116.set_2)|exact HI0.out));(case side2=>repeat (first|(with_reducible first|exact HB.out|apply below_alloc|apply pw_below_drewN|apply below_drew1|refine below_set ?_ (IsS116.ge HI0.out))|exact HB.out));rintro e w8 ⟨rfl,hi,hb,hk⟩;refine ⟨_,rfl,?_⟩;have n0_:=Aside0.mk (KeepBut.trans (by repeat (first|(with_reducible first|exact HK.out|apply KeepBut.set_|apply keep_drewN|apply keep_drew|apply keep_alloc)|exact HK.out)) hk (.inl rfl));have n1_:=Aside0.mk (hb);have n2_:=Aside0.mk (hi);clear HK;clear HB;clear HI0;have HK:=n0_;have HB:=n1_;have HI0:=n2_;clear n0_ n1_ n2_;(try clear hb);(try clear hb2);(try clear hk);(try clear hi))|((with_reducible refine gate_callee (f:=133) rfl ?_);refine goesL_ (some 15) rfl rfl Try.func133 (by kernel_rfl) rfl #[.pointer (some ⟨g,0,none⟩)] rfl (by (try simp only [List.map_toArray,List.map_cons,List.map_nil]);first|done|rfl|(simp only [List.length_drop,List.length_take];rfl)) ?_;(with_reducible refine (spec_l5Cur_next.calls g s0_0 t154 t155 t156 t157 t158 w0 _ ?side1 ?side2 A6.out).mono ?_);(case side1=>repeat (first|(with_reducible first|exact HI0.out|apply IsS116.alloc|apply IsS116.drewN|apply IsS116.drew|apply IsS116.set_1|apply IsS116.set_2)|exact HI0.out));(case side2=>repeat (first|(with_reducible first|exact HB.out|apply below_alloc|apply pw_below_drewN|apply below_drew1|refine below_set ?_ (IsS116.ge HI0.out))|exact HB.out));rintro e w9 ⟨rfl,hi,hb,hk⟩;refine ⟨_,rfl,?_⟩;have n0_:=Aside0.mk (KeepBut.trans (by repeat (first|(with_reducible first|exact HK.out|apply KeepBut.set_|apply keep_drewN|apply keep_drew|apply keep_alloc)|exact HK.out)) hk (.inl rfl));have n1_:=Aside0.mk (hb);have n2_:=Aside0.mk (hi);clear HK;clear HB;clear HI0;have HK:=n0_;have HB:=n1_;have HI0:=n2_;clear n0_ n1_ n2_;(try clear hb);(try clear hb2);(try clear hk);(try clear hi)))
  go_ret
  exact ⟨by first|rfl|(simp [errW_none,errW_some] <;> rfl)|(simp [*,errW_none,errW_some] <;> rfl),by repeat (first|(with_reducible first|exact HI0.out|apply IsS116.alloc|apply IsS116.drewN|apply IsS116.drew|apply IsS116.set_1|apply IsS116.set_2)|exact HI0.out),by repeat (first|(with_reducible first|exact HB.out|apply below_alloc|apply pw_below_drewN|apply below_drew1|refine below_set ?_ (IsS116.ge HI0.out))|exact HB.out),by repeat (first|(with_reducible first|exact HK.out|apply KeepBut.set_|apply keep_drewN|apply keep_drew|apply keep_alloc)|exact HK.out)⟩
 rw [if_neg c5] at H
 have c5b0:decide (200<a1)=false:=decide_eq_false c5
 clear c5
 by_cases c10:a1=0
 ·rw [if_pos c10] at H
  exact absurd H (by simp)
 rw [if_neg c10] at H
 have c10b0:(a1==0)=false:=beq_eq_false_iff_ne.mpr c10
 have c10b1:(a1 != 0)=true:=bne_iff_ne.mpr c10
 simp only [Option.some.injEq,Prod.mk.injEq] at H
 obtain ⟨rfl,rfl,rfl⟩:=H
 go_enter Try.func108,Try.ntmps108
 go_wp2_with (first|((with_reducible refine gate_callee (f:=133) rfl ?_);refine goesL_ (some 9) rfl rfl Try.func133 (by kernel_rfl) rfl #[.pointer (some ⟨g,0,none⟩)] rfl (by (try simp only [List.map_toArray,List.map_cons,List.map_nil]);first|done|rfl|(simp only [List.length_drop,List.length_take];rfl)) ?_;(with_reducible refine (spec_l5Cur_next.calls g s0_0 s0_1 s0_2 t153 t154 t155 w0 _ ?side1 ?side2 A4.out).mono ?_);(case side1=>repeat (first|(with_reducible first|exact HI0.out|apply IsS116.alloc|apply IsS116.drewN|apply IsS116.drew|apply IsS116.set_1|apply IsS116.set_2)|exact HI0.out));(case side2=>repeat (first|(with_reducible first|exact HB.out|apply below_alloc|apply pw_below_drewN|apply below_drew1|refine below_set ?_ (IsS116.ge HI0.out))|exact HB.out));rintro e w11 ⟨rfl,hi,hb,hk⟩;refine ⟨_,rfl,?_⟩;have n0_:=Aside0.mk (KeepBut.trans (by repeat (first|(with_reducible first|exact HK.out|apply KeepBut.set_|apply keep_drewN|apply keep_drew|apply keep_alloc)|exact HK.out)) hk (.inl rfl));have n1_:=Aside0.mk (hb);have n2_:=Aside0.mk (hi);clear HK;clear HB;clear HI0;have HK:=n0_;have HB:=n1_;have HI0:=n2_;clear n0_ n1_ n2_;(try clear hb);(try clear hb2);(try clear hk);(try clear hi)))
 go_ret
 exact ⟨by first|rfl|(simp [errW_none,errW_some] <;> rfl)|(simp [*,errW_none,errW_some] <;> rfl),by repeat (first|(with_reducible first|exact HI0.out|apply IsS116.alloc|apply IsS116.drewN|apply IsS116.drew|apply IsS116.set_1|apply IsS116.set_2)|exact HI0.out),by repeat (first|(with_reducible first|exact HB.out|apply below_alloc|apply pw_below_drewN|apply below_drew1|refine below_set ?_ (IsS116.ge HI0.out))|exact HB.out),by repeat (first|(with_reducible first|exact HK.out|apply KeepBut.set_|apply keep_drewN|apply keep_drew|apply keep_alloc)|exact HK.out)⟩
end Go.Proofs.Ytpdnabhpkdchjaa.P
namespace Go.Proofs.Ytpdnabhpkdchjaa.P
open Go.RowKit Go.Proofs.YtpdnabhpkdchjaaW.PrintWords Go.Proofs.YtpdnabhpkdchjaaW.PrintLast Go.Proofs.YtpdnabhpkdchjaaW.PrintMore
set_option linter.unusedVariables false
set_option linter.unusedSimpArgs false
def pk (code : List Int) (c : Int × Int) (m : Int) : Int × (Int × Int) := match spec_l5Cur_pick.f code c.1 c.2 m with | some (v, a, s) => (v, (a, s)) | none => (0, c)
structure CurOk (code : List Int) (b : Int) (c : Int × Int) : Prop where
  bytes : ∀ x ∈ code, 0 ≤ x ∧ x < 256
  lo : 0 ≤ c.1
  hi : c.1 ≤ b
theorem CurOk.mono {code : List Int} {b b' : Int} {c : Int × Int} (h : CurOk code b c) (hb : b ≤ b') : CurOk code b' c := ⟨h.bytes, h.lo, Int.le_trans h.hi hb⟩
theorem byte_mask (x : Int) : 0 ≤ Go.bits .and .u64 (IntKind.u64.wrap x / 1099511627776) 255 ∧ Go.bits .and .u64 (IntKind.u64.wrap x / 1099511627776) 255 < 256 := by
  have hw : IntKind.u64.wrap x = x % 18446744073709551616 := by simp [IntKind.wrap, IntKind.bits, IntKind.signed]
  rw [hw]
  generalize hy : x % 18446744073709551616 / 1099511627776 = y
  have h := bits_mask .u64 64 (by decide) (fun n h0 h1 => by
    have : IntKind.u64.wrap n = n % 18446744073709551616 := by simp [IntKind.wrap, IntKind.bits, IntKind.signed]
    rw [this]; omega) 8 (by decide) y (by omega) (by omega)
  have h2 : Go.bits .and .u64 y 255 = y % 256 := h
  rw [h2]; omega
theorem next_ok {code : List Int} {b : Int} {c : Int × Int} (hc : CurOk code b c) (hb : b ≤ 4611686018427387904) : ∃ v c', spec_l5Cur_next.f code c.1 c.2 = some (v, c'.1, c'.2) ∧ 0 ≤ v ∧ v < 256 ∧ CurOk code (b + 1) c' := by
  have h0 := hc.lo
  have h1 := hc.hi
  have hw : wrap64 (c.1 + 1) = c.1 + 1 := wrap_id (by omega) (by omega)
  unfold spec_l5Cur_next.f
  by_cases h : c.1 < (code.length : Int)
  · have hm : rd code c.1 ∈ code := by
      have hl : c.1.toNat < code.length := by omega
      rw [rd, List.getD_eq_getElem?_getD, List.getElem?_eq_getElem hl, Option.getD_some]
      exact List.getElem_mem hl
    have hv := hc.bytes _ hm
    rw [if_pos h, if_pos h0, wrap_id (x := rd code c.1) (by omega) (by omega), hw]
    exact ⟨_, (_, _), rfl, hv.1, hv.2, hc.bytes, by show 0 ≤ c.1 + 1; omega, by show c.1 + 1 ≤ b + 1; omega⟩
  · rw [if_neg h, hw]
    have hv := byte_mask ((IntKind.u64.wrap (c.2 * 6364136223846793005)) + 1442695040888963407)
    rw [wrap_id (by omega) (by omega)]
    exact ⟨_, (_, _), rfl, hv.1, hv.2, hc.bytes, by show 0 ≤ c.1 + 1; omega, by show c.1 + 1 ≤ b + 1; omega⟩
theorem tmod_in {x m : Int} (hx : 0 ≤ x) (hm : 0 < m) : 0 ≤ Int.tmod x m ∧ Int.tmod x m < m := by
  rw [Int.tmod_eq_emod_of_nonneg hx]
  exact ⟨Int.emod_nonneg _ (by omega), Int.emod_lt_of_pos _ hm⟩
theorem pick_ok {code : List Int} {b m : Int} {c : Int × Int} (hc : CurOk code b c) (hb : b ≤ 2305843009213693952) (hm : 0 < m) : ∃ v c', spec_l5Cur_pick.f code c.1 c.2 m = some (v, c'.1, c'.2) ∧ pk code c m = (v, c') ∧ 0 ≤ v ∧ v < m ∧ CurOk code (b + 2) c' := by
  have key : ∃ v c', spec_l5Cur_pick.f code c.1 c.2 m = some (v, c'.1, c'.2) ∧ 0 ≤ v ∧ v < m ∧ CurOk code (b + 2) c' := by
    unfold spec_l5Cur_pick.f
    by_cases h1 : m ≤ 1
    · rw [if_pos h1]
      exact ⟨0, c, rfl, Int.le_refl _, hm, hc.mono (by omega)⟩
    · rw [if_neg h1]
      obtain ⟨v, c1, e1, hv0, hv1, hc1⟩ := next_ok hc (by omega)
      rw [e1, Option.bind_some]
      by_cases h2 : m > 200
      · rw [if_pos h2]
        obtain ⟨u, c2, e2, hu0, hu1, hc2⟩ := next_ok hc1 (by omega)
        rw [e2, Option.bind_some, if_neg (by omega)]
        have hw : wrap64 (wrap64 (v * 256) + u) = v * 256 + u := by rw [wrap_id (x := v * 256) (by omega) (by omega), wrap_id (by omega) (by omega)]
        have := tmod_in (x := wrap64 (wrap64 (v * 256) + u)) (m := m) (by rw [hw]; omega) hm
        exact ⟨_, c2, rfl, this.1, this.2, hc2.mono (by omega)⟩
      · rw [if_neg h2, if_neg (by omega)]
        have := tmod_in hv0 hm
        exact ⟨_, c1, rfl, this.1, this.2, hc1.mono (by omega)⟩
  obtain ⟨v, c', e, h0, h1, h2⟩ := key
  exact ⟨v, c', e, by rw [pk, e], h0, h1, h2⟩
theorem pick_is (g : Nat) {code : List Int} {b m : Int} {c : Int × Int} (w0 w : World) (hc : CurOk code b c) (hb : b ≤ 2305843009213693952) (hm : 0 < m) (hI : IsS116 w0 w g code c.1 c.2) (hB : Below w0.heap.size w0 w) :
    Calls Try.prog 108 #[.pointer (some ⟨g, 0, none⟩), .int .i64 m] w fun e w' => ∃ v c', e = .returned (.int .i64 v) ∧ pk code c m = (v, c') ∧ 0 ≤ v ∧ v < m ∧ CurOk code (b + 2) c' ∧ IsS116 w0 w' g code c'.1 c'.2 ∧ Below w0.heap.size w0 w' ∧ KeepBut w w' g none := by
  obtain ⟨v, c', e, h1, h2, h3, h4⟩ := pick_ok hc hb hm
  refine (spec_l5Cur_pick.calls g code c.1 c.2 m v c'.1 c'.2 w0 w hI hB e).mono ?_
  rintro r w' ⟨k1, k2, k3, k4⟩
  exact ⟨v, c', k1, h1, h2, h3, h4, k2, k3, k4⟩
end Go.Proofs.Ytpdnabhpkdchjaa.P
namespace Go.Proofs.Ytpdnabhpkdchjaa.P
open Go.RowKit Go.Proofs.YtpdnabhpkdchjaaW.PrintWords Go.Proofs.YtpdnabhpkdchjaaW.PrintLast Go.Proofs.YtpdnabhpkdchjaaW.PrintMore
set_option linter.unusedVariables false
structure EvP where
  c : Int × Int
  th : List Int
  dead : Int
  out : List S56
end Go.Proofs.Ytpdnabhpkdchjaa.P
namespace Go.Proofs.Ytpdnabhpkdchjaa.P
open Go.RowKit Go.Proofs.YtpdnabhpkdchjaaW.PrintWords Go.Proofs.YtpdnabhpkdchjaaW.PrintLast Go.Proofs.YtpdnabhpkdchjaaW.PrintMore
set_option linter.unusedVariables false
set_option linter.unusedSimpArgs false
section
variable {code : List Int} {n : Int} {l : List S88} {ho : Bool}
theorem truthAt_app (es : List S56) (e : S56) (k : Nat) (h : k ≤ es.length) : truthAt n l (es ++ [e]) k = truthAt n l es k := by
  rw [truthAt, truthAt, List.take_append_of_le_length h]
theorem truthAt_last (es : List S56) (e : S56) : truthAt n l (es ++ [e]) (es ++ [e]).length = tstep n l (truthAt n l es es.length) e := by
  rw [truthAt, truthAt, List.take_length, List.take_length, List.foldl_append]
  rfl
def HonP (n : Int) (l : List S88) (es : List S56) : Prop := ∀ k : Nat, k < es.length → ((rd_T56 es (k : Int)).f0 = 5 → rd (truthAt n l es k) (rd_T56 es (k : Int)).f1 = 0) ∧ nonneg (truthAt n l es (k + 1)) = true
theorem rd56_app_lt (es : List S56) (e : S56) (k : Nat) (h : k < es.length) : rd_T56 (es ++ [e]) (k : Int) = rd_T56 es (k : Int) := by
  rw [rd56 _ k (by simp; omega), rd56 _ k h, List.getElem_append_left h]
theorem rd56_app_eq (es : List S56) (e : S56) : rd_T56 (es ++ [e]) (es.length : Int) = e := by
  rw [rd56 _ es.length (by simp)]; simp
theorem HonP.app {es : List S56} {e : S56} (h : HonP n l es) (h5 : e.f0 = 5 → rd (truthAt n l es es.length) e.f1 = 0) (hn : nonneg (tstep n l (truthAt n l es es.length) e) = true) : HonP n l (es ++ [e]) := by
  intro k hk
  rw [List.length_append, List.length_singleton] at hk
  by_cases e1 : k < es.length
  · rw [rd56_app_lt es e k e1, truthAt_app es e k (by omega), truthAt_app es e (k + 1) (by omega)]
    exact h k e1
  · have : k = es.length := by omega
    subst this
    rw [rd56_app_eq, truthAt_app es e _ (Nat.le_refl _)]
    refine ⟨h5, ?_⟩
    have := truthAt_last (n := n) (l := l) es e
    rw [List.length_append, List.length_singleton] at this
    rw [this]
    exact hn
structure EvI (n : Int) (l : List S88) (ho : Bool) (s : EvP) : Prop where
  th : s.th = truthAt n l s.out s.out.length
  dead0 : -1 ≤ s.dead
  dead1 : s.dead < (l.length : Int)
  ok : ∀ e ∈ s.out, eventOk n l e.f0 e.f1 e.f2 = true
  bd : ∀ j : Nat, -(s.out.length : Int) ≤ rd s.th (j : Int) ∧ rd s.th (j : Int) ≤ (s.out.length : Int)
  hon : ho = true → HonP n l s.out ∧ nonneg s.th = true
theorem EvI.skip {s : EvP} (h : EvI n l ho s) (c : Int × Int) (d : Int) (h0 : -1 ≤ d) (h1 : d < (l.length : Int)) : EvI n l ho ⟨c, s.th, d, s.out⟩ := ⟨h.th, h0, h1, h.ok, h.bd, h.hon⟩
theorem mem_snoc {e x : S56} {es : List S56} (h : x ∈ es ++ [e]) : x ∈ es ∨ x = e := by simpa using h
theorem EvI.add {s : EvP} (h : EvI n l ho s) (c : Int × Int) (d : Int) (h0 : -1 ≤ d) (h1 : d < (l.length : Int)) (e : S56) (hok : eventOk n l e.f0 e.f1 e.f2 = true) (hne : e.f0 ≠ 1) (h5 : ho = true → e.f0 = 5 → rd s.th e.f1 = 0) :
    EvI n l ho ⟨c, s.th, d, s.out ++ [e]⟩ := by
  have ht : tstep n l s.th e = s.th := by
    unfold tstep isPass
    rw [decide_eq_false hne, Bool.and_false]; rfl
  have hl := truthAt_last (n := n) (l := l) s.out e
  rw [← h.th, ht] at hl
  refine ⟨hl.symm, h0, h1, fun x hx => ?_, fun j => ?_, fun hh => ?_⟩
  · rcases mem_snoc hx with hx | rfl
    · exact h.ok x hx
    · exact hok
  · have := h.bd j
    simp only [List.length_append, List.length_singleton]
    exact ⟨by omega, by omega⟩
  · obtain ⟨k1, k2⟩ := h.hon hh
    refine ⟨k1.app (fun q => by rw [← h.th]; exact h5 hh q) (by rw [← h.th, ht]; exact k2), k2⟩
end
end Go.Proofs.Ytpdnabhpkdchjaa.P
namespace Go.Proofs.Ytpdnabhpkdchjaa.P
open Go.RowKit Go.Proofs.YtpdnabhpkdchjaaW.PrintWords Go.Proofs.YtpdnabhpkdchjaaW.PrintLast Go.Proofs.YtpdnabhpkdchjaaW.PrintMore
set_option linter.unusedVariables false
set_option linter.unusedSimpArgs false
structure MlSt (wI : World) (b0 : Nat) (w : World) (gr gl : Nat) (n : Int) (v1 v2 : Value) (cs : List S88) (ps : List S143) : Prop where
  hr : w.heap[gr]? = some (.cells #[.int .i64 0, .slice none 0 0] 30 (0, 0))
  hl : w.heap[gl]? = some (.cells #[.int .i64 n, v1] 30 (0, 0))
  H1 : Kd.R k88 88 w b0 (fun _ => True) v1 cs
  H2 : Kd.R k143 143 w b0 (fun _ => True) v2 ps
  hB : Below wI.heap.size wI w
  b1 : wI.heap.size ≤ b0
  b2 : b0 ≤ w.heap.size
  rlt : gr < b0
  llt : gl < b0
  lge : wI.heap.size ≤ gl
  rge : wI.heap.size ≤ gr
  ne : gr ≠ gl
section
variable {wI w w' : World} {b0 gr gl : Nat} {n : Int} {v1 v2 v1' v2' : Value} {cs cs' : List S88} {ps ps' : List S143}
theorem MlSt.up (h : MlSt wI b0 w gr gl n v1 v2 cs ps) (hb : Below w.heap.size w w') : MlSt wI b0 w' gr gl n v1 v2 cs ps :=
  ⟨blk_below h.hr hb, blk_below h.hl hb, R_up h.H1 hb, R_up h.H2 hb, below_step h.hB hb, h.b1, Nat.le_trans h.b2 hb.size, h.rlt, h.llt, h.lge, h.rge, h.ne⟩
theorem MlSt.ne1 (h : MlSt wI b0 w gr gl n v1 v2 cs ps) {g : Nat} (hg : g < b0) : some g ≠ v1.ownBlock := fun e => by have := Kd.R_base h.H1 g e.symm; omega
theorem MlSt.apart (h : MlSt wI b0 w gr gl n v1 v2 cs ps) : v1.ownBlock ≠ v2.ownBlock ∨ v1.ownBlock = none := by
  cases hv : v1.ownBlock with
  | none => exact .inr rfl
  | some k =>
    obtain ⟨inner, ho⟩ := Kd.R_own h.H1
    obtain ⟨cells, hc⟩ := own_typed ho k hv
    exact .inl (Kd.R_ne h.H2 hc (by decide))
theorem up_none {W W' : World} (hg : W.grownBy W' none) : Below W.heap.size W W' := (Below.refl _ _).grown hg (Nat.le_refl _) (fun _ e => nomatch e)
theorem MlSt.cs1 (h : MlSt wI b0 w gr gl n v1 v2 cs ps) (hg : w.grownBy w' v1.ownBlock) :
    w'.heap[gr]? = some (.cells #[.int .i64 0, .slice none 0 0] 30 (0, 0)) ∧ w'.heap[gl]? = some (.cells #[.int .i64 n, v1] 30 (0, 0)) ∧ Kd.R k143 143 w' b0 (fun _ => True) v2 ps ∧ Below wI.heap.size wI w' := by
  refine ⟨(hg.block gr (blk_lt h.hr) (h.ne1 h.rlt)).trans h.hr, (hg.block gl (blk_lt h.hl) (h.ne1 h.llt)).trans h.hl, ?_, pw_below_grown h.hB _ h.hB.size hg (fun k hk => Nat.le_trans h.b1 (Kd.R_base h.H1 k hk))⟩
  rcases h.apart with ha | ha
  · exact R_on rfl h.H2 hg ha
  · rw [ha] at hg
    exact R_up h.H2 (up_none hg)
theorem MlSt.cs2 (h : MlSt wI b0 w gr gl n v1 v2 cs ps) (H1 : Kd.R k88 88 w' b0 (fun _ => True) v1' cs') (hg : w.grownBy w' v1.ownBlock) : MlSt wI b0 (w'.setCell ⟨gl, 1, none⟩ v1') gr gl n v1' v2 cs' ps := by
  obtain ⟨a, b, d, e⟩ := h.cs1 hg
  refine ⟨blk_far a (fun e => h.ne e) _, blk_put b 1 v1' rfl, R_off rfl H1 (Kd.R_ne H1 b (by decide)) _, R_off rfl d (Kd.R_ne d b (by decide)) _, below_set e h.lge, h.b1, ?_, h.rlt, h.llt, h.lge, h.rge, h.ne⟩
  have hs : w'.heap.size ≤ (w'.setCell ⟨gl, 1, none⟩ v1').heap.size := by simp [World.setCell]
  exact Nat.le_trans h.b2 (Nat.le_trans hg.size hs)
theorem MlSt.at_ (h : MlSt wI b0 w gr gl n v1 v2 cs ps) : w.cell? ⟨gl, 0, none⟩ = some (.int .i64 n) ∧ w.cell? ⟨gl, 1, none⟩ = some v1 ∧ w.frozen? ⟨gl, 0, none⟩ = false ∧ w.frozen? ⟨gl, 1, none⟩ = false ∧
    w.cell? ⟨gr, 0, none⟩ = some (.int .i64 0) ∧ w.cell? ⟨gr, 1, none⟩ = some (.slice none 0 0) ∧ w.frozen? ⟨gr, 0, none⟩ = false ∧ w.frozen? ⟨gr, 1, none⟩ = false := by
  have a0 := blk_cell h.hl 0
  have a1 := blk_cell h.hl 1
  have b0 := blk_cell h.hr 0
  have b1 := blk_cell h.hr 1
  exact ⟨a0, a1, blk_frozen h.hl 0, blk_frozen h.hl 1, b0, b1, blk_frozen h.hr 0, blk_frozen h.hr 1⟩
end
theorem fill2m {w w' : World} {g t : Nat} {x0 x1 y0 y1 : Value} (hx : w'.heap[g]? = some (.cells #[x0, x1] t (0, 0))) (hb : Below w.heap.size w w') (hg : w.heap.size ≤ g) :
    Below w.heap.size w ((w'.setCell ⟨g, 0, none⟩ y0).setCell ⟨g, 1, none⟩ y1) ∧ ((w'.setCell ⟨g, 0, none⟩ y0).setCell ⟨g, 1, none⟩ y1).heap[g]? = some (.cells #[y0, y1] t (0, 0)) :=
  ⟨below_set (j := 1) (v := y1) (below_set (j := 0) (v := y0) hb hg) hg, blk_put (blk_put hx 0 y0 rfl) 1 y1 rfl⟩
end Go.Proofs.Ytpdnabhpkdchjaa.P
namespace Go.Proofs.Ytpdnabhpkdchjaa.P
open Go Go.RowKit Go.Proofs.YtpdnabhpkdchjaaW.PrintWords Go.Proofs.YtpdnabhpkdchjaaW.PrintLast Go.Proofs.YtpdnabhpkdchjaaW.PrintMore
set_option linter.unusedVariables false
def upto (n k : Nat) : Array Bool := (List.replicate k true ++ List.replicate (n - k) false).toArray
section
variable {P : Program} {md : Region.Mode} {ops : Array Oper} {T : Bool × List (List Nat × List Nat)} {B : List Nat} {Q : Exit → Act → World → Prop} {S : World → Prop} {ds : List Nat} {n k fuel : Nat} {N : Option Tmp} {oi : Oper} {v : Value} {a a' : Act} {w : World} {op : Op} {ty : TypeId} {pos : String} {af : Array Edge} {gu : Option (Nat × Bool)}
theorem wanted_none (hg : oi.guard = none) (y : Nat → Option Bool) : Region.wanted oi y = true := by unfold Region.wanted; rw [hg]
theorem wanted_yes {j : Nat} {u b : Bool} {y : Nat → Option Bool} (hg : oi.guard = some (j, u)) (hb : y j = some b) (he : (b == u) = true) : Region.wanted oi y = true := by
  unfold Region.wanted
  rw [hg]
  dsimp only
  rw [hb]
  cases b <;> cases u <;> first | rfl | cases he
theorem wanted_no {j : Nat} {u b : Bool} {y : Nat → Option Bool} (hg : oi.guard = some (j, u)) (hb : y j = some b) (he : (b == u) = false) : Region.wanted oi y = false := by
  unfold Region.wanted
  rw [hg]
  dsimp only
  rw [hb]
  cases b <;> cases u <;> first | rfl | cases he
theorem upto_zero (n : Nat) : Array.replicate n false = upto n 0 := by simp [upto]
theorem startK {id : Nat} (n : Nat) (hm : P.follows .mixedOrders = true) (hn : ops.size = n) (hS : S w.drew) (h : S w.drew → wpAnyLast P .any ops Q S ds n (upto n 0) a w.drew) : (Code.region id ops true).wp P Q a w := start_ (upto n 0) hm hn (upto_zero n) hS h
theorem take0 {k' : Nat} (hk : k + 1 = k') (hi : ops[k]? = some ⟨N, op, ty, pos, af, none⟩) (hT : rtab md ops = T) (hB : waitsOk T.2 B = true) (hc : takeW T B ds (upto n k).toList (upto n k').toList k = true) (hQ : ∀ c a w, Q (.panic c) (a.put N v) w → Q (.panic c) a w) (hS : S w) (hy : ∀ w, S w → (execOp a.eval ⟨N, op, ty, pos, af, none⟩).run P w = .ok (.value v) w) (ha : a.put N v = a') (h : wpAnyLast P md ops Q S ds fuel (upto n k') a' w) : wpAnyLast P md ops Q S ds (fuel + 1) (upto n k) a w :=
  take_ (upto n k') hi rfl (take_ofW hT hB hc) hQ (Or.inl ⟨wanted_none rfl _, hy⟩) hS ha h
theorem takeG {k' j : Nat} {u b : Bool} (hk : k + 1 = k') (hi : ops[k]? = some ⟨N, op, ty, pos, af, some (j, u)⟩) (hb : yielded ops a.tmps j = some b) (hT : rtab md ops = T) (hB : waitsOk T.2 B = true) (hc : takeW T B ds (upto n k).toList (upto n k').toList k = true) (hQ : ∀ c a w, Q (.panic c) (a.put N v) w → Q (.panic c) a w) (hS : S w) (hy : if (b == u) = true then ∀ w, S w → (execOp a.eval ⟨N, op, ty, pos, af, some (j, u)⟩).run P w = .ok (.value v) w else v = undef) (ha : a.put N v = a') (h : wpAnyLast P md ops Q S ds fuel (upto n k') a' w) : wpAnyLast P md ops Q S ds (fuel + 1) (upto n k) a w := by
  refine take_ (upto n k') hi rfl (take_ofW hT hB hc) hQ ?_ hS ha h
  cases he : (b == u) with
  | true => rw [he, if_pos rfl] at hy; exact Or.inl ⟨wanted_yes rfl hb he, hy⟩
  | false => rw [he, if_neg (by decide)] at hy; exact Or.inr ⟨wanted_no rfl hb he, hy⟩
theorem oneK {k' : Nat} (hk : k + 1 = k') (hi : ops[k]? = some ⟨N, op, ty, pos, af, gu⟩) (hT : rtab md ops = T) (hc : (readyT T.2 (upto n k).toList == [k] && (upto n k).toList.set k true == (upto n k').toList) = true) (hd : k ∉ ds)
    (h : ∀ K : Act → World → Prop, Shut (∀ a' w', S w' → (S w' → wpAnyLast P md ops Q S ds fuel (upto n k') a' w') → K a' w') → if Region.wanted ⟨N, op, ty, pos, af, gu⟩ (yielded ops a.tmps) = true then Oper.wp P ⟨N, op, ty, pos, af, gu⟩ a w K Q else K (a.put N undef) w) : wpAnyLast P md ops Q S ds (fuel + 1) (upto n k) a w :=
  one_ (upto n k') hi rfl (one_of hT hc) hd h
end
end Go.Proofs.Ytpdnabhpkdchjaa.P
namespace Go.Proofs.Ytpdnabhpkdchjaa.Open
open Go.RowKit Go.Proofs.YtpdnabhpkdchjaaW.PrintWords Go.Proofs.YtpdnabhpkdchjaaW.PrintLast Go.Proofs.YtpdnabhpkdchjaaW.PrintMore
open Go.ChangeShapes Go.WideShapes Go.ChangeAt P
set_option maxRecDepth 100000
set_option linter.unusedVariables false
def kB : Kd {x : Int // 0 ≤ x ∧ x < 256} := Kd.iso (Kd.int .u8) Subtype.val
theorem wf_u8 {n : Int} (h : (Lit.int .u8 n).wf = true) : 0 ≤ n ∧ n < 256 := by
  have e1 : IntKind.u8.min = 0 := rfl
  have e2 : IntKind.u8.max = 255 := rfl
  simp [Lit.wf, e1, e2] at h
  omega
theorem oB : Opens Try.prog 5 kB := by
  intro H enc w base spare held fuel cs x h
  obtain ⟨n, rfl, _, hw⟩ := DataW.trod_int Try.underlying5 h
  exact ⟨⟨n, wf_u8 hw⟩, rfl⟩
theorem oBs : Opens Try.prog 34 (Kd.slice 5 kB) := opens_slice Try.underlying34 (by kernel_rfl) oB
theorem C_map {α β : Type} {d : Kd α} {f : β → α} {w : World} {A : Option Addr} {n : Nat} {xs : List β} (h : Kd.C (Kd.iso d f) w A n xs) : Kd.C d w A n (xs.map f) := by
  obtain ⟨h1, h2, h3⟩ := h
  refine ⟨by simpa using h1, h2, fun hn => ?_⟩
  obtain ⟨ad, e, hc⟩ := h3 hn
  refine ⟨ad, e, fun j p hp => ?_⟩
  rw [List.getElem?_map, Option.map_eq_some_iff] at hp
  obtain ⟨q, hq, rfl⟩ := hp
  exact hc j q hq
section
variable {H : Type} {enc : TypeId × Value → H} {W : World} {base b0 : Nat} {spare : Nat → Bool} {held : Bool} {v : Value} {x : DataW H} {ps : List MemPlace} {r : Reach}
theorem arg_bytes (hv : Value.okWide Try.prog W r b0 34 v) (h : DataW.Trod enc Try.prog W base spare held 34 v x ps) :
    ∃ A c l, v = .slice A l.length c ∧ Kd.C (Kd.int .u8) W A l.length l ∧ l.length ≤ c ∧ ∀ x ∈ l, 0 ≤ x ∧ x < 256 := by
  obtain ⟨A, c, l, e, h1, h2⟩ := arg_slice Try.underlying34 oBs hv h
  refine ⟨A, c, l.map Subtype.val, by rw [e, List.length_map], by rw [List.length_map]; exact C_map h1, by rw [List.length_map]; exact h2, fun x hx => ?_⟩
  obtain ⟨y, _, rfl⟩ := List.mem_map.1 hx
  exact y.2
end
end Go.Proofs.Ytpdnabhpkdchjaa.Open
namespace Go.Proofs.Ytpdnabhpkdchjaa.WalkFnSpoilt
open P Go Go.RowKit Go.Proofs.YtpdnabhpkdchjaaW.PrintWords Go.Proofs.YtpdnabhpkdchjaaW.PrintLast Go.Proofs.YtpdnabhpkdchjaaW.PrintMore
set_option linter.unusedVariables false
set_option linter.unusedSimpArgs false
def sp_T10 : Bool × List (List Nat × List Nat) := (true, [([], []), ([], []), ([0, 1], [0, 1]), ([2], [2]), ([3], [3]), ([4, 2], [4]), ([5], [5]), ([6, 5, 5], [5, 6]), ([7, 5], [5, 7]), ([8, 5], [5, 8]), ([5, 9], [5, 9]), ([10, 7], [10]), ([11], [11]), ([11], [11]), ([13, 11], [11, 13]), ([14, 11], [11, 14]), ([12, 15, 11, 11], [11, 12, 15]), ([16, 11], [11, 16]), ([11, 17], [11, 17]), ([18, 16], [18]), ([19], [19]), ([19], [19]), ([20, 21, 19, 19], [19, 20, 21]), ([22, 19], [19, 22]), ([23, 19], [19, 23]), ([19, 24], [19, 24]), ([25, 22], [25]), ([26], [26]), ([26], [26]), ([27, 28, 26, 26], [26, 27, 28]), ([29, 26], [26, 29]), ([26, 30], [26, 30]), ([31, 29, 0, 1, 2, 3, 4, 5, 6, 7, 8, 9, 10, 11, 12, 13, 14, 15, 16, 17, 18, 19, 20, 21, 22, 23, 24, 25, 26, 27, 28, 29, 30, 31], [31])])
def sp_B10 : List Nat := [0, 0, 3, 7, 15, 31, 63, 127, 255, 511, 1023, 2047, 4095, 4095, 12287, 28671, 65535, 131071, 262143, 524287, 1048575, 1048575, 4194303, 8388607, 16777215, 33554431, 67108863, 134217727, 134217727, 536870911, 1073741823, 2147483647, 4294967295]
theorem sp_tab10 : rtab .any (opsOf Try.f10 10) = sp_T10 := by kernel_rfl
theorem sp_bits10 : waitsOk sp_T10.2 sp_B10 = true := by kernel_rfl
section
variable {n : Int} {A A1 : Option Addr} {c c1 : Nat} {l : List S88} {es : List S56} {w : World}
theorem slay_at {k : Int} (hk : layoutOk n l = k) (hr : Kd.C k88 w A l.length l) (hc : l.length ≤ c) : Calls Try.prog 23 #[.agg #[.int .i64 n, .slice A l.length c]] w fun e w' => e = .returned (.int .i64 k) ∧ Below w.heap.size w w' := hk ▸ slay_is hr hc
theorem begin_bad (hl : layoutOk n l ≠ 0) (hr : Kd.C k88 w A l.length l) (hc : l.length ≤ c) :
    Calls Try.prog 44 #[.agg #[.int .i64 n, .slice A l.length c]] w fun e w' => ∃ v1_ v2_ : Value, e = .returned (.agg #[.bool false, v1_, v2_]) ∧ Below w.heap.size w w' := by
  have h := impl_Begin.calls n A c l (begin3 n l).1 (begin3 n l).2.1 (begin3 n l).2.2 w hr hc (implBegin_eq n l)
  rw [show begin3 n l = (false, [], []) by rw [begin3, if_neg hl]] at h
  exact h.mono fun e w' ⟨v1, v2, e1, _, _, b⟩ => ⟨v1, v2, e1, b⟩
theorem begin_good (hl : layoutOk n l = 0) (hr : Kd.C k88 w A l.length l) (hc : l.length ≤ c) :
    Calls Try.prog 44 #[.agg #[.int .i64 n, .slice A l.length c]] w fun e w' => ∃ v1_ v2_ : Value, e = .returned (.agg #[.bool true, v1_, v2_]) ∧ Below w.heap.size w w' :=
  (begin_is hr hc hl).mono fun e w' ⟨v1, v2, e1, _, _, b⟩ => ⟨v1, v2, e1, b⟩
theorem run_bad (hl : layoutOk n l ≠ 0) (hr : Kd.C k88 w A l.length l) (hc : l.length ≤ c) (hr1 : Kd.C k56 w A1 es.length es) (hc1 : es.length ≤ c1) :
    Calls Try.prog 29 #[.agg #[.int .i64 n, .slice A l.length c], .slice A1 es.length c1] w fun e w' => ∃ (B : Option Addr) (d : Nat), e = .returned (.slice B 0 d) ∧ Below w.heap.size w w' :=
  (run_is n A c l A1 c1 es w hr hc hr1 hc1).mono fun e w' ⟨v, e1, hs, b⟩ => by
    rw [run, if_neg (fun h => hl h.1)] at hs
    obtain ⟨B, d, rfl⟩ := Kd.S_slice hs
    exact ⟨B, d, e1, b⟩
theorem run_good (hl : layoutOk n l = 0) (he : es.length ≤ 2000) (hr : Kd.C k88 w A l.length l) (hc : l.length ≤ c) (hr1 : Kd.C k56 w A1 es.length es) (hc1 : es.length ≤ c1) :
    Calls Try.prog 29 #[.agg #[.int .i64 n, .slice A l.length c], .slice A1 es.length c1] w fun e w' => ∃ (B : Option Addr) (d : Nat), e = .returned (.slice B es.length d) ∧ Below w.heap.size w w' :=
  (run_is n A c l A1 c1 es w hr hc hr1 hc1).mono fun e w' ⟨v, e1, hs, b⟩ => by
    obtain ⟨B, d, rfl⟩ := Kd.S_slice hs
    refine ⟨B, d, ?_, b⟩
    rw [e1, run, if_pos ⟨hl, he⟩, runTo_length]
theorem truth_bad (hl : layoutOk n l ≠ 0) (hr : Kd.C k88 w A l.length l) (hc : l.length ≤ c) (hr1 : Kd.C k56 w A1 es.length es) (hc1 : es.length ≤ c1) :
    Calls Try.prog 54 #[.agg #[.int .i64 n, .slice A l.length c], .slice A1 es.length c1] w fun e w' => ∃ (B : Option Addr) (d : Nat), e = .returned (.slice B 0 d) ∧ Below w.heap.size w w' :=
  (truth_is hr hc hr1 hc1).mono fun e w' ⟨v, e1, hs, b⟩ => by
    rw [truth, if_neg (fun h => hl h.1)] at hs
    obtain ⟨B, d, rfl⟩ := Kd.S_slice hs
    exact ⟨B, d, e1, b⟩
theorem honest_bad (hl : layoutOk n l ≠ 0) (hr : Kd.C k88 w A l.length l) (hc : l.length ≤ c) (hr1 : Kd.C k56 w A1 es.length es) (hc1 : es.length ≤ c1) :
    Calls Try.prog 51 #[.agg #[.int .i64 n, .slice A l.length c], .slice A1 es.length c1] w fun e w' => e = .returned (.bool false) ∧ Below w.heap.size w w' := by
  rw [show false = honest n l es by rw [honest, decide_eq_false hl]; rfl]
  exact honest_is n A c l A1 c1 es w hr hc hr1 hc1
theorem run_bad1 {b : Nat} {ok : Nat → Prop} (hl : layoutOk n l ≠ 0) (hr : Kd.C k88 w A l.length l) (hc : l.length ≤ c) (hr1 : Kd.R k56 56 w b ok (.slice A1 1 c1) [(⟨5, 0, 0⟩ : S56)]) :
    Calls Try.prog 29 #[.agg #[.int .i64 n, .slice A l.length c], .slice A1 1 c1] w fun e w' => ∃ (B : Option Addr) (d : Nat), e = .returned (.slice B 0 d) ∧ Below w.heap.size w w' :=
  run_bad (es := [(⟨5, 0, 0⟩ : S56)]) hl hr hc (Kd.R_reads' hr1).2.2 (Kd.R_reads' hr1).2.1
theorem truth_bad1 {b : Nat} {ok : Nat → Prop} (hl : layoutOk n l ≠ 0) (hr : Kd.C k88 w A l.length l) (hc : l.length ≤ c) (hr1 : Kd.R k56 56 w b ok (.slice A1 1 c1) [(⟨5, 0, 0⟩ : S56)]) :
    Calls Try.prog 54 #[.agg #[.int .i64 n, .slice A l.length c], .slice A1 1 c1] w fun e w' => ∃ (B : Option Addr) (d : Nat), e = .returned (.slice B 0 d) ∧ Below w.heap.size w w' :=
  truth_bad (es := [(⟨5, 0, 0⟩ : S56)]) hl hr hc (Kd.R_reads' hr1).2.2 (Kd.R_reads' hr1).2.1
theorem honest_bad1 {b : Nat} {ok : Nat → Prop} (hl : layoutOk n l ≠ 0) (hr : Kd.C k88 w A l.length l) (hc : l.length ≤ c) (hr1 : Kd.R k56 56 w b ok (.slice A1 1 c1) [(⟨5, 0, 0⟩ : S56)]) :
    Calls Try.prog 51 #[.agg #[.int .i64 n, .slice A l.length c], .slice A1 1 c1] w fun e w' => e = .returned (.bool false) ∧ Below w.heap.size w w' :=
  honest_bad (es := [(⟨5, 0, 0⟩ : S56)]) hl hr hc (Kd.R_reads' hr1).2.2 (Kd.R_reads' hr1).2.1
theorem ev_bad (hl : layoutOk n l ≠ 0) : eventOk n l 5 0 0 = false := by rw [eventOk, if_neg hl]
end
theorem fld46 (b : Bool) (v1 v2 : Value) (w : World) : (Instr.field 46 (.agg #[.bool b, v1, v2]) 0).run Try.prog w = .ok (.bool b) w := by kernel_rfl
theorem own_one (W : World) : Kd.R k56 56 (W.alloc (.cells #[.int .i64 5, .int .i64 0, .int .i64 0] 56)) W.heap.size (fun _ => True) (.slice (some ⟨W.heap.size, 0, none⟩) 1 1) [(⟨5, 0, 0⟩ : S56)] :=
  ⟨fun _ _ => trivial, OwnRow.lit W W.heap.size (Reps.c3 (show Kd.M k56 _ _ _ (⟨5, 0, 0⟩ : S56) [.int .i64 5, .int .i64 0, .int .i64 0] from (k56_mkM _ _ _ ⟨5, 0, 0⟩)) (Reps.none _ _)) (Nat.le_refl _) (by simp)⟩
theorem box3s {w : World} {g : Nat} {a b d : Value} {t : TypeId} (h : w.heap[g]? = some (.cells #[a, b, d] t (0, 0))) : w.cell? ⟨g, 0, none⟩ = some a ∧ w.cell? ⟨g, 1, none⟩ = some b ∧ w.cell? ⟨g, 2, none⟩ = some d := by
  have h0 := blk_cell h 0
  have h1 := blk_cell h 1
  have h2 := blk_cell h 2
  exact ⟨h0, h1, h2⟩
theorem box2s {w : World} {g : Nat} {a b : Value} {t : TypeId} (h : w.heap[g]? = some (.cells #[a, b] t (0, 0))) : w.cell? ⟨g, 0, none⟩ = some a ∧ w.cell? ⟨g, 1, none⟩ = some b  := by
  have h0 := blk_cell h 0
  have h1 := blk_cell h 1
  exact ⟨h0, h1⟩
set_option maxHeartbeats 16000000 in
set_option maxRecDepth 100000 in
theorem walk (A : Option Addr) (c : Nat) (code : List Int) (w : World) (hr : Kd.C (Kd.int .u8) w A code.length code) (hc : code.length ≤ c) (hby : ∀ x ∈ code, 0 ≤ x ∧ x < 256)
    (hdr : Calls Try.prog 53 #[.slice A code.length c] w fun e w1 => ∃ (n : Int) (l : List S88) (A1 : Option Addr) (c1 : Nat), e = .returned (.agg #[.int .i64 n, .slice A1 l.length c1]) ∧ Kd.R k88 88 w1 w.heap.size (fun _ => True) (.slice A1 l.length c1) l ∧ Below w.heap.size w w1) :
    Calls Try.prog 10 #[.slice A code.length c] w fun e w' => e = .returned (.bool true) ∧ Below w.heap.size w w' := by
  by_cases hbig : 1048576 < code.length
  · have hb1 : decide ((1048576 : Int) < (code.length : Int)) = true := decide_eq_true (by omega)
    clear hbig
    go_enter Try.func10, Try.ntmps10
    go_wp2_with fail
    go_ret
    exact ⟨rfl, Below.refl _ _⟩
  have hb1 : decide ((1048576 : Int) < (code.length : Int)) = false := decide_eq_false (by omega)
  have HDR := Aside0.mk hdr
  clear hbig hr hc hby hdr
  go_enter Try.func10, Try.ntmps10
  go_upto_region 4 with (first | (go_at_call 53; refine HDR.out.mono ?_; rintro e w1 ⟨n, l, Al, cl, rfl, ho, hb⟩; have RL := Aside0.mk ho; have B1 := Aside0.mk hb; clear ho hb) | ((with_reducible refine gate_dst (N := 3) rfl ?_); refine box_event ?hg (N := 3) ?hd (cs := #[.int .i64 0, .slice none 0 0]) (t := 30) ?hr ?_; (case hd => rfl); (case hg => rfl); (case hr => first | (go_simp; done) | (go_simp; rfl)); intro gl el wl kl bl; have EL := Aside0.mk el; have KL := Aside0.mk kl; have BL := Aside0.mk bl; clear el kl bl; have kl0 : wl.cell? ⟨gl, 0, none⟩ = some (.int .i64 0) := (blk_cell KL.out 0).trans rfl; have zkl0 := blk_frozen KL.out 0; have kl1 : wl.cell? ⟨gl, 1, none⟩ = some (.slice none 0 0) := (blk_cell KL.out 1).trans rfl; have zkl1 := blk_frozen KL.out 1))
  have FX := Aside0.mk (fill2m (y0 := .int .i64 n) (y1 := .slice Al l.length cl) KL.out BL.out (Nat.le_of_eq EL.out.symm))
  clear kl0 zkl0 kl1 zkl1 KL BL EL
  generalize ((wl.setCell ⟨gl, 0, none⟩ (.int .i64 n)).setCell ⟨gl, 1, none⟩ (.slice Al l.length cl)) = w2 at FX ⊢
  have RL := Aside0.mk (show Kd.C k88 w2 Al l.length l ∧ l.length ≤ cl from ⟨Kd.C_below (Kd.R_reads' RL.out).2.2 FX.out.1, (Kd.R_reads' RL.out).2.1⟩)
  have B1 := Aside0.mk (below_step B1.out FX.out.1)
  have KL := Aside0.mk FX.out.2
  clear FX HDR
  obtain ⟨kl0, kl1⟩ := box2s KL.out
  obtain ⟨k, hk⟩ : ∃ k, layoutOk n l = k := ⟨_, rfl⟩
  have HK := Aside0.mk hk
  have hkk : (k != k) = false := bne_self_eq_false _
  clear hk
  go_upto_region 5 with (go_at_call 25; refine (lay_at HK.out RL.out.1 RL.out.2).mono ?_; rintro e w3 ⟨rfl, hb⟩; have RL := Aside0.mk (show Kd.C k88 w3 Al l.length l ∧ l.length ≤ cl from ⟨Kd.C_below RL.out.1 hb, RL.out.2⟩); have KL := Aside0.mk (blk_below KL.out hb); have B1 := Aside0.mk (below_step B1.out hb); clear hb kl0 kl1)
  obtain ⟨kl0, kl1⟩ := box2s KL.out
  go_upto_region 7 with (go_at_call 23; refine (slay_at HK.out RL.out.1 RL.out.2).mono ?_; rintro e w4 ⟨rfl, hb⟩; have RL := Aside0.mk (show Kd.C k88 w4 Al l.length l ∧ l.length ≤ cl from ⟨Kd.C_below RL.out.1 hb, RL.out.2⟩); have KL := Aside0.mk (blk_below KL.out hb); have B1 := Aside0.mk (below_step B1.out hb); clear hb kl0 kl1)
  go_upto_region 8 with fail
  have RE := Aside0.mk (own_one w4)
  have KE : Aside0 ((w4.alloc (.cells #[.int .i64 5, .int .i64 0, .int .i64 0] 56)).heap[w4.heap.size]? = some (.cells #[.int .i64 5, .int .i64 0, .int .i64 0] 56 (0, 0))) := ⟨heap_alloc_new w4 _⟩
  have HB := Aside0.mk (below_alloc (Below.refl w4.heap.size w4) (.cells #[.int .i64 5, .int .i64 0, .int .i64 0] 56))
  generalize w4.alloc (.cells #[.int .i64 5, .int .i64 0, .int .i64 0] 56) = w5 at RE KE HB ⊢
  have RL := Aside0.mk (show Kd.C k88 w5 Al l.length l ∧ l.length ≤ cl from ⟨Kd.C_below RL.out.1 HB.out, RL.out.2⟩)
  have KL := Aside0.mk (blk_below KL.out HB.out)
  have B1 := Aside0.mk (below_step B1.out HB.out)
  generalize w4.heap.size = ge at RE KE HB ⊢
  clear HB
  obtain ⟨kl0, kl1⟩ := box2s KL.out
  have hfld := fld46
  by_cases hk0 : k = 0
  · have hkt : (k == 0) = true := by rw [hk0]; rfl
    have HK0 := Aside0.mk (HK.out.trans hk0)
    clear hk0
    go_wp2_with (first | (go_at_call 29; refine (run_good HK0.out (show [(⟨5, 0, 0⟩ : S56)].length ≤ 2000 by decide) RL.out.1 RL.out.2 (Kd.R_reads' RE.out).2.2 (Kd.R_reads' RE.out).2.1).mono ?_; rintro e w6 ⟨A0, c0, rfl, hb⟩; have RL := Aside0.mk (show Kd.C k88 w6 Al l.length l ∧ l.length ≤ cl from ⟨Kd.C_below RL.out.1 hb, RL.out.2⟩); have RE := Aside0.mk (Kd.R_below RE.out hb); have KL := Aside0.mk (blk_below KL.out hb); have B1 := Aside0.mk (below_step B1.out hb); clear hb kl0 kl1; obtain ⟨kl0, kl1⟩ := box2s KL.out) | (go_at_call 44; refine (begin_good HK0.out RL.out.1 RL.out.2).mono ?_; rintro e w7 ⟨v1_, v2_, rfl, hb⟩; have RL := Aside0.mk (show Kd.C k88 w7 Al l.length l ∧ l.length ≤ cl from ⟨Kd.C_below RL.out.1 hb, RL.out.2⟩); have RE := Aside0.mk (Kd.R_below RE.out hb); have KL := Aside0.mk (blk_below KL.out hb); have B1 := Aside0.mk (below_step B1.out hb); clear hb kl0 kl1))
    go_ret
    exact ⟨rfl, B1.out⟩
  · have hkf : (k == 0) = false := by simp [hk0]
    have HK0 := Aside0.mk (show layoutOk n l ≠ 0 by rw [HK.out]; exact hk0)
    clear hk0
    go_upto_region 10 with fail
    have hb := below_drew1 (Below.refl w5.heap.size w5)
    have RL := Aside0.mk (show Kd.C k88 w5.drew Al l.length l ∧ l.length ≤ cl from ⟨Kd.C_below RL.out.1 hb, RL.out.2⟩); have RE := Aside0.mk (Kd.R_below RE.out hb); have KL := Aside0.mk (blk_below KL.out hb); have B1 := Aside0.mk (below_step B1.out hb)
    have KE := Aside0.mk (blk_below KE.out hb)
    clear hb kl0 kl1
    refine startK 33 (S := fun w' => w'.cell? ⟨gl, 0, none⟩ = some (.int .i64 n) ∧ w'.cell? ⟨gl, 1, none⟩ = some (.slice Al l.length cl) ∧ w'.cell? ⟨ge, 0, none⟩ = some (.int .i64 5) ∧ w'.cell? ⟨ge, 1, none⟩ = some (.int .i64 0) ∧ w'.cell? ⟨ge, 2, none⟩ = some (.int .i64 0)) (ds := []) (by kernel_rfl) rfl ⟨(box2s KL.out).1, (box2s KL.out).2, (box3s KE.out).1, (box3s KE.out).2.1, (box3s KE.out).2.2⟩ (fun hHeld => ?_)
    refine with_tabW sp_tab10 sp_bits10 (fun HT_ HW_ => ?_)
    repeat (first
      | (refine take0 (v := ?_) (a' := ?_) (by simp only [Nat.reduceAdd]; rfl) (by rfl) HT_.out HW_.out (by kernel_rfl) (by exact fun _ _ _ h => h) hHeld ?_ ?_ ?_; rotate_left 2; (· rintro w' ⟨s0, s1, s2, s3, s4⟩; go_simp; with_reducible rfl); (· simp only [Act.put, List.setIfInBounds_toArray, List.set_cons_zero, List.set_cons_succ, i64_w, i32_w]; rfl))
      | (refine takeG (v := ?_) (a' := ?_) (by simp only [Nat.reduceAdd]; rfl) (by rfl) (by rfl) HT_.out HW_.out (by kernel_rfl) (by exact fun _ _ _ h => h) hHeld ?_ ?_ ?_; rotate_left 2; (· first | (rw [if_neg (by decide)]; done) | (rw [if_pos (by decide)]; rintro w' ⟨s0, s1, s2, s3, s4⟩; go_simp; with_reducible rfl)); (· simp only [Act.put, List.setIfInBounds_toArray, List.set_cons_zero, List.set_cons_succ, i64_w, i32_w]; rfl))
      | (refine oneK (by simp only [Nat.reduceAdd]; rfl) (by rfl) HT_.out (by kernel_rfl) (by decide) (fun K hK => ?_); refine goes_ Try.func29 (by kernel_rfl) rfl #[.agg #[.int .i64 n, .slice Al l.length cl], .slice (some ⟨ge, 0, none⟩) 1 1] (by rfl) rfl rfl (by (try simp only [List.map_toArray, List.map_cons, List.map_nil]); first | done | rfl) ?_; ((with_reducible refine (run_bad1 HK0.out RL.out.1 RL.out.2 RE.out).mono ?_); rintro e w' ⟨A0, c0, rfl, hb⟩); refine ⟨_, rfl, ?_⟩; have RL := Aside0.mk (show Kd.C k88 w' Al l.length l ∧ l.length ≤ cl from ⟨Kd.C_below RL.out.1 hb, RL.out.2⟩); have RE := Aside0.mk (Kd.R_below RE.out hb); have KL := Aside0.mk (blk_below KL.out hb); have B1 := Aside0.mk (below_step B1.out hb); refine hK.out _ _ ⟨pw_cell_below hb hHeld.1, pw_cell_below hb hHeld.2.1, pw_cell_below hb hHeld.2.2.1, pw_cell_below hb hHeld.2.2.2.1, pw_cell_below hb hHeld.2.2.2.2⟩ (fun hHeld => ?_); clear hK K; refine norm_ (a' := ?_) ?_ ?_; rotate_left; · simp only [Act.put, List.setIfInBounds_toArray, List.set_cons_zero, List.set_cons_succ, i64_w, i32_w]; rfl)
      | (refine oneK (by simp only [Nat.reduceAdd]; rfl) (by rfl) HT_.out (by kernel_rfl) (by decide) (fun K hK => ?_); refine goes_ Try.func44 (by kernel_rfl) rfl #[.agg #[.int .i64 n, .slice Al l.length cl]] (by rfl) rfl rfl (by (try simp only [List.map_toArray, List.map_cons, List.map_nil]); first | done | rfl) ?_; ((with_reducible refine (begin_bad HK0.out RL.out.1 RL.out.2).mono ?_); rintro e w' ⟨v1_, v2_, rfl, hb⟩); refine ⟨_, rfl, ?_⟩; have RL := Aside0.mk (show Kd.C k88 w' Al l.length l ∧ l.length ≤ cl from ⟨Kd.C_below RL.out.1 hb, RL.out.2⟩); have RE := Aside0.mk (Kd.R_below RE.out hb); have KL := Aside0.mk (blk_below KL.out hb); have B1 := Aside0.mk (below_step B1.out hb); refine hK.out _ _ ⟨pw_cell_below hb hHeld.1, pw_cell_below hb hHeld.2.1, pw_cell_below hb hHeld.2.2.1, pw_cell_below hb hHeld.2.2.2.1, pw_cell_below hb hHeld.2.2.2.2⟩ (fun hHeld => ?_); clear hK K; refine norm_ (a' := ?_) ?_ ?_; rotate_left; · simp only [Act.put, List.setIfInBounds_toArray, List.set_cons_zero, List.set_cons_succ, i64_w, i32_w]; rfl)
      | (refine oneK (by simp only [Nat.reduceAdd]; rfl) (by rfl) HT_.out (by kernel_rfl) (by decide) (fun K hK => ?_); refine goes_ Try.func36 (by kernel_rfl) rfl #[.agg #[.int .i64 n, .slice Al l.length cl], .agg #[.int .i64 5, .int .i64 0, .int .i64 0]] (by rfl) rfl rfl (by (try simp only [List.map_toArray, List.map_cons, List.map_nil]); first | done | rfl) ?_; ((with_reducible refine (ev_at 5 0 0 (ev_bad HK0.out) RL.out.1 RL.out.2).mono ?_); rintro e w' ⟨rfl, hb⟩); refine ⟨_, rfl, ?_⟩; have RL := Aside0.mk (show Kd.C k88 w' Al l.length l ∧ l.length ≤ cl from ⟨Kd.C_below RL.out.1 hb, RL.out.2⟩); have RE := Aside0.mk (Kd.R_below RE.out hb); have KL := Aside0.mk (blk_below KL.out hb); have B1 := Aside0.mk (below_step B1.out hb); refine hK.out _ _ ⟨pw_cell_below hb hHeld.1, pw_cell_below hb hHeld.2.1, pw_cell_below hb hHeld.2.2.1, pw_cell_below hb hHeld.2.2.2.1, pw_cell_below hb hHeld.2.2.2.2⟩ (fun hHeld => ?_); clear hK K; refine norm_ (a' := ?_) ?_ ?_; rotate_left; · simp only [Act.put, List.setIfInBounds_toArray, List.set_cons_zero, List.set_cons_succ, i64_w, i32_w]; rfl)
      | (refine oneK (by simp only [Nat.reduceAdd]; rfl) (by rfl) HT_.out (by kernel_rfl) (by decide) (fun K hK => ?_); refine goes_ Try.func54 (by kernel_rfl) rfl #[.agg #[.int .i64 n, .slice Al l.length cl], .slice (some ⟨ge, 0, none⟩) 1 1] (by rfl) rfl rfl (by (try simp only [List.map_toArray, List.map_cons, List.map_nil]); first | done | rfl) ?_; ((with_reducible refine (truth_bad1 HK0.out RL.out.1 RL.out.2 RE.out).mono ?_); rintro e w' ⟨A0, c0, rfl, hb⟩); refine ⟨_, rfl, ?_⟩; have RL := Aside0.mk (show Kd.C k88 w' Al l.length l ∧ l.length ≤ cl from ⟨Kd.C_below RL.out.1 hb, RL.out.2⟩); have RE := Aside0.mk (Kd.R_below RE.out hb); have KL := Aside0.mk (blk_below KL.out hb); have B1 := Aside0.mk (below_step B1.out hb); refine hK.out _ _ ⟨pw_cell_below hb hHeld.1, pw_cell_below hb hHeld.2.1, pw_cell_below hb hHeld.2.2.1, pw_cell_below hb hHeld.2.2.2.1, pw_cell_below hb hHeld.2.2.2.2⟩ (fun hHeld => ?_); clear hK K; refine norm_ (a' := ?_) ?_ ?_; rotate_left; · simp only [Act.put, List.setIfInBounds_toArray, List.set_cons_zero, List.set_cons_succ, i64_w, i32_w]; rfl)
      | (refine oneK (by simp only [Nat.reduceAdd]; rfl) (by rfl) HT_.out (by kernel_rfl) (by decide) (fun K hK => ?_); refine goes_ Try.func51 (by kernel_rfl) rfl #[.agg #[.int .i64 n, .slice Al l.length cl], .slice (some ⟨ge, 0, none⟩) 1 1] (by rfl) rfl rfl (by (try simp only [List.map_toArray, List.map_cons, List.map_nil]); first | done | rfl) ?_; ((with_reducible refine (honest_bad1 HK0.out RL.out.1 RL.out.2 RE.out).mono ?_); rintro e w' ⟨rfl, hb⟩); refine ⟨_, rfl, ?_⟩; have RL := Aside0.mk (show Kd.C k88 w' Al l.length l ∧ l.length ≤ cl from ⟨Kd.C_below RL.out.1 hb, RL.out.2⟩); have RE := Aside0.mk (Kd.R_below RE.out hb); have KL := Aside0.mk (blk_below KL.out hb); have B1 := Aside0.mk (below_step B1.out hb); refine hK.out _ _ ⟨pw_cell_below hb hHeld.1, pw_cell_below hb hHeld.2.1, pw_cell_below hb hHeld.2.2.1, pw_cell_below hb hHeld.2.2.2.1, pw_cell_below hb hHeld.2.2.2.2⟩ (fun hHeld => ?_); clear hK K; refine norm_ (a' := ?_) ?_ ?_; rotate_left; · simp only [Act.put, List.setIfInBounds_toArray, List.set_cons_zero, List.set_cons_succ, i64_w, i32_w]; rfl))
    refine done_ (done_of HT_.out (by kernel_rfl)) ?_
    go_wp2_with fail
    go_ret
    exact ⟨rfl, B1.out⟩
end Go.Proofs.Ytpdnabhpkdchjaa.WalkFnSpoilt
