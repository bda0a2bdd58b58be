/- The statement FnExactWriteEventsCardSaid holds of the given program, for every argument; there are no conditions. (Part 3 of 3.) -/
import Derived.Test.YtpdnabhpkdchjaaDoorBFnExactWriteEvents2
import Derived.LaidMore
import Derived.Stop.LaidErr
import Derived.Lib.LaidTab
import Derived.Stop.Joined
import Derived.LaidLaws
import Derived.Carry
import Derived.ChangeVars
import Derived.Test.YtpdnabhpkdchjaaDoorTie
import Derived.Test.YtpdnabhpkdchjaaDoorCards
import Derived.SevenTiedAt
import Derived.ChangeMaps5
import Derived.ShutString
namespace Go.Proofs.YtpdnabhpkdchjaaDoor.P
open Go Go.RowKit Go.Proofs.YtpdnabhpkdchjaaDoorW.PrintWords Go.Proofs.YtpdnabhpkdchjaaDoorW.PrintLast
set_option linter.unusedVariables false
set_option linter.unusedSimpArgs false
def evB (e : S52) : List UInt8 := lineB e.f0 e.f1 e.f2
def textB (es : List S52) : List UInt8 := (es.map evB).flatten
def evsOk (n : Int) (l : List S98) (es : List S52) : Bool := es.all (fun e => eventOk n l e.f0 e.f1 e.f2)
def writeE (n : Int) (l : List S98) (es : List S52) : List UInt8 := if layoutOk n l = 0 ∧ es.length ≤ 2000 ∧ evsOk n l es = true ∧ (textB es).length ≤ 20000 then textB es else []
theorem textB_snoc (es : List S52) (i : Nat) (h : i < es.length) : textB (es.take (i + 1)) = textB (es.take i) ++ evB es[i] := by
  rw [textB, List.take_succ_eq_append_getElem h, List.map_append, List.flatten_append]
  simp [textB]
theorem ev_parts {n : Int} {l : List S98} {op of dir : Int} (h : eventOk n l op of dir = true) : layoutOk n l = 0 ∧ (1 ≤ op ∧ op ≤ 5) ∧ (0 ≤ of ∧ of ≤ 119) ∧ (-1 ≤ dir ∧ dir ≤ 1) ∧ ((op = 1 ∨ op = 2) ∧ (dir = 1 ∨ dir = -1) ∨ (op = 3 ∨ op = 4 ∨ op = 5) ∧ dir = 0) := by
  unfold eventOk at h
  split at h
  · rename_i hl
    have hn := lay_n hl
    split at h
    · simp at h; omega
    · split at h
      · simp at h; omega
      · split at h
        · simp at h; omega
        · cases h
  · cases h
theorem evB_len {n : Int} {l : List S98} {e : S52} (h : eventOk n l e.f0 e.f1 e.f2 = true) : (evB e).length ≤ 130 := by
  have hp := ev_parts h
  have h1 := word_len e.f0.toNat
  have h2 := digits_len e.f1.toNat
  have h3 : (dirB e.f2).length ≤ 2 := by unfold dirB; split <;> (try split) <;> simp
  unfold evB lineB
  simp only [List.length_append, List.length_singleton]
  omega
theorem textB_len {n : Int} {l : List S98} : ∀ {es : List S52}, evsOk n l es = true → (textB es).length ≤ es.length * 130
  | [], _ => by simp [textB]
  | e :: es, h => by
    rw [evsOk, List.all_cons, Bool.and_eq_true] at h
    have h1 := evB_len h.1
    have h2 := textB_len (es := es) h.2
    have e1 : textB (e :: es) = evB e ++ textB es := by simp [textB]
    rw [e1, List.length_append, List.length_cons]
    omega
theorem evsOk_take {n : Int} {l : List S98} {es : List S52} (i : Nat) (h : i < es.length) : evsOk n l (es.take (i + 1)) = (evsOk n l (es.take i) && eventOk n l es[i].f0 es[i].f1 es[i].f2) := by
  rw [evsOk, List.take_succ_eq_append_getElem h, List.all_append]
  simp [evsOk]
theorem rd52 (l : List S52) (i : Nat) (h : i < l.length) : rd_T52 l (i : Int) = l[i] := by simp [rd_T52, h]
end Go.Proofs.YtpdnabhpkdchjaaDoor.P
namespace Go.Proofs.YtpdnabhpkdchjaaDoor.P
open Go.RowKit Go.Proofs.YtpdnabhpkdchjaaDoorW.PrintWords Go.Proofs.YtpdnabhpkdchjaaDoorW.PrintLast Go.Proofs.YtpdnabhpkdchjaaDoorW.PrintMore
attribute [local go_sem] max2_int min2_int max_two min_two max_three min_three max_four min_four
set_option linter.unusedVariables false
set_option linter.unusedSimpArgs false
def laws_szEventS.f (l0:List (S57)) (a1:Int):Option (Int):=if (wrap64 (a1 - (l0.length:Int)))<0 then (some (-1)) else (some (wrap64 (a1 - (l0.length:Int))))
set_option maxHeartbeats 8000000 in
set_option maxRecDepth 100000 in
theorem laws_szEventS.calls (A0:Option Addr) (c0:Nat) (l0:List (S57)) (a1:Int) (r:Int) (w:World) (hr0:Kd.C k57 w A0 l0.length l0) (hc0:l0.length≤c0) (h:laws_szEventS.f l0 a1=some r) :
  Calls Tryd.prog 8 #[.slice A0 l0.length c0,.int .i64 a1] w fun e w'=>e=.returned (.int .i64 r)∧Drawn0 w w':=by
 have HR0:=Aside0.mk hr0
 have HC0:=Aside0.mk hc0
 clear hr0 hc0
 have H:(if (wrap64 (a1 - (l0.length:Int)))<0 then (some (-1)) else (some (wrap64 (a1 - (l0.length:Int)))))=some r:=h
 clear h
 by_cases c3:(wrap64 (a1 - (l0.length:Int)))<0
 ·rw [if_pos c3] at H
  have c3b0:decide ((wrap64 (a1 - (l0.length:Int)))<0)=true:=decide_eq_true c3
  clear c3
  obtain rfl:=Option.some.inj H
  go_enter Tryd.func8,Tryd.ntmps8
  go_wp2
  go_ret
  exact ⟨by first|rfl|(simp;done)|(simp [*];done),by repeat (first|exact Drawn0.refl _|apply Drawn0.step)⟩
 rw [if_neg c3] at H
 have c3b0:decide ((wrap64 (a1 - (l0.length:Int)))<0)=false:=decide_eq_false c3
 clear c3
 obtain rfl:=Option.some.inj H
 go_enter Tryd.func8,Tryd.ntmps8
 go_wp2
 go_ret
 exact ⟨by first|rfl|(simp;done)|(simp [*];done),by repeat (first|exact Drawn0.refl _|apply Drawn0.step)⟩
end Go.Proofs.YtpdnabhpkdchjaaDoor.P
namespace Go.Proofs.YtpdnabhpkdchjaaDoor.P
open Go.RowKit Go.Proofs.YtpdnabhpkdchjaaDoorW.PrintWords Go.Proofs.YtpdnabhpkdchjaaDoorW.PrintLast Go.Proofs.YtpdnabhpkdchjaaDoorW.PrintMore
attribute [local go_sem] max2_int min2_int max_two min_two max_three min_three max_four min_four
set_option linter.unusedVariables false
set_option linter.unusedSimpArgs false
def laws_toEventS.l0:Nat→List (S57)→List (S52)→Int→Option ((List (S52)))
 | 0,_,_,_=>none
 | k+1,x0,x3,x4=>if x4<(x0.length:Int) then (if 0≤x4 then ((laws_toEvent.f ((rd_T57 x0 x4).f0) ((rd_T57 x0 x4).f1) ((rd_T57 x0 x4).f2)).bind fun bt156=>(if x4<(x3.length:Int) then (laws_toEventS.l0 k x0 (x3.set (x4:Int).toNat (⟨bt156.1,bt156.2.1,bt156.2.2⟩:S52)) (wrap64 (x4+1))) else (none))) else (none)) else (some x3)
def laws_toEventS.f (k:Nat) (l0:List (S57)):Option ((List (S52))):=if 0≤(l0.length:Int) then (if ((l0.length:Int):Int).toNat≤11728124029610 then (laws_toEventS.l0 k l0 (List.replicate ((l0.length:Int):Int).toNat z52) 0) else (none)) else (none)
set_option maxHeartbeats 8000000 in
set_option maxRecDepth 100000 in
theorem laws_toEventS.calls (k:Nat) (A0:Option Addr) (c0:Nat) (l0:List (S57)) (r:List (S52)) (w:World) (hr0:Kd.C k57 w A0 l0.length l0) (hc0:l0.length≤c0) (h:laws_toEventS.f k l0=some r) :
  Calls Tryd.prog 11 #[.slice A0 l0.length c0] w fun e w'=>∃ v0_:Value,e=.returned (v0_)∧Kd.R k52 52 w' w.heap.size (fun _=>True) v0_ r∧Below w.heap.size w w':=by
 have hu57:=Tryd.underlying57
 have hu52:=Tryd.underlying52
 have HR0:=Aside0.mk hr0
 have HC0:=Aside0.mk hc0
 clear hr0 hc0
 have HB:=Aside0.mk (Below.refl w.heap.size w)
 have H:(if 0≤(l0.length:Int) then (if ((l0.length:Int):Int).toNat≤11728124029610 then (laws_toEventS.l0 k l0 (List.replicate ((l0.length:Int):Int).toNat z52) 0) else (none)) else (none))=some r:=h
 clear h
 by_cases c2:0≤(l0.length:Int)
 ·rw [if_pos c2] at H
  have c2b0:=eq_true c2
  have c2b1:decide (0≤(l0.length:Int))=true:=decide_eq_true c2
  clear c2
  by_cases c3:((l0.length:Int):Int).toNat≤11728124029610
  ·rw [if_pos c3] at H
   have c3b0:=eq_true c3
   have c3b1:decide (((l0.length:Int):Int).toNat≤11728124029610)=true:=decide_eq_true c3
   clear c3
   obtain ⟨y152,hy152⟩:∃ y_:List (S52),y_=(List.replicate ((l0.length:Int):Int).toNat z52):=⟨_,rfl⟩
   replace H:(laws_toEventS.l0 k l0 y152 0)=some r:=by first|(rw [hy152];with_reducible exact H)|(have H2_:=(Option.bind_some _ _).symm.trans H;rw [hy152];with_reducible exact H2_)|(have H2_:=(Option.bind_some _ _).symm.trans H;with_reducible exact H2_)|with_reducible exact H|(rw [hy152];exact H)|exact H
   have Ny152:=Aside0.mk hy152
   clear hy152
   have H':=Aside0.mk H
   clear H
   go_enter Tryd.func11,Tryd.ntmps11
   go_wp2_with (first|((with_reducible refine gate_dst (N:=7) rfl ?_);refine Kd.R_make k52 _ 52 rfl (N:=7) rfl 33 _ _ rfl (l0.length:Int) rfl rfl Tryd.underlying33 (.agg #[(.int .i64 0),(.int .i64 0),(.int .i64 0)]) 24 info52 rfl (by decide) (by omega) z52 (ok:=fun _=>True) (okp:=fun _=>True) (k52_mkM _ _ _ z52 ) (fun _ hk=>hk) trivial (of_decide_eq_true (by first|(with_reducible assumption)|assumption)) (Nat.le_trans (Nat.mul_le_mul_right _ (of_decide_eq_true (by first|(with_reducible assumption)|assumption):(l0.length:Int).toNat≤11728124029610)) (by omega)) (Below.refl _ _) (Nat.le_refl _) ?_;intro v153 w4 ho5 hb hg_ hnew_;clear hg_ hnew_;(first|rw [← Ny152.out] at ho5|(simp only [Int.reduceToNat] at ho5;rw [← Ny152.out] at ho5));have n0_:=Aside0.mk (Kd.R_lower ho5 (below_size (by repeat (first|(with_reducible first|exact HB.out|apply below_alloc|apply pw_below_drewN|apply below_drew1)|exact HB.out))));have n1_:=Aside0.mk (below_step (by repeat (first|(with_reducible first|exact HB.out|apply below_alloc|apply pw_below_drewN|apply below_drew1)|exact HB.out)) hb);clear HB;have HO154:=n0_;have HB:=n1_;clear n0_ n1_;clear hb ho5))
   go_loopg [4] k (fun kq v4 w'=>∃ (x3_1:List (S52)) (x4_1:Int),v4=.int .i64 x4_1∧Aside0 (laws_toEventS.l0 kq l0 x3_1 x4_1=some r)∧Aside0 (kq≤k)∧Aside0 (Kd.R k52 52 w' w.heap.size (fun _=>True) v153 x3_1)∧Aside0 (Below w.heap.size w w'))
   case atStart=>exact ⟨(y152),(0),(by first|rfl|(simp;done)|(simp [*];done)),H',⟨Nat.le_refl _⟩,⟨by (with_reducible repeat (first|apply Kd.R_alloc|apply Kd.R_drewN|apply Kd.R_drew));exact HO154.out⟩,⟨by repeat (first|(with_reducible first|exact HB.out|apply below_alloc|apply pw_below_drewN|apply below_drew1)|exact HB.out)⟩⟩
   case round =>
    clear H'
    try clear c1
    try clear c2
    try clear c2b0
    try clear c2b1
    try clear p2
    try clear c3
    try clear c3b0
    try clear c3b1
    obtain ⟨x3_1,x4_1,rfl,HA,HK1,HO_3,HB⟩:=hrel
    cases gk with
    | zero=>exact absurd HA.out (by simp [laws_toEventS.l0])
    | succ k1 =>
     have H:=HA.out
     clear HA
     simp only [laws_toEventS.l0] at H
     by_cases c6:x4_1<(l0.length:Int)
     ·rw [if_pos c6] at H
      have c6b0:decide (x4_1<(l0.length:Int))=true:=decide_eq_true c6
      clear c6
      by_cases c7:0≤x4_1
      ·rw [if_pos c7] at H
       have c7b0:decide (0≤x4_1)=true:=decide_eq_true c7
       clear c7
       replace H:=Option.bind_eq_some_iff.mp H
       obtain ⟨⟨t156,t157,t158⟩,A80,H⟩:=H
       replace H:(if x4_1<(x3_1.length:Int) then (laws_toEventS.l0 k1 l0 (x3_1.set (x4_1:Int).toNat (⟨t156,t157,t158⟩:S52)) (wrap64 (x4_1+1))) else (none))=some r:=H
       have A8:=Aside0.mk A80
       clear A80
       by_cases c9:x4_1<(x3_1.length:Int)
       ·rw [if_pos c9] at H
        have c9b0:decide (x4_1<(x3_1.length:Int))=true:=decide_eq_true c9
        clear c9
        obtain ⟨y159,hy159⟩:∃ y_:List (S52),y_=(x3_1.set (x4_1:Int).toNat (⟨t156,t157,t158⟩:S52)):=⟨_,rfl⟩
        replace H:(laws_toEventS.l0 k1 l0 y159 (wrap64 (x4_1+1)))=some r:=by first|(rw [hy159];with_reducible exact H)|(have H2_:=(Option.bind_some _ _).symm.trans H;rw [hy159];with_reducible exact H2_)|(have H2_:=(Option.bind_some _ _).symm.trans H;with_reducible exact H2_)|with_reducible exact H|(rw [hy159];exact H)|exact H
        have Ny159:=Aside0.mk hy159
        clear hy159
        have H':=Aside0.mk H
        clear H
        have p155:0≤(x4_1:Int):=of_decide_eq_true (by first|(with_reducible assumption)|assumption)
        have q155:x4_1<(l0.length:Int):=of_decide_eq_true (by first|(with_reducible assumption)|assumption)
        obtain ⟨ad155,e155,hx155_0,hx155_1,hx155_2⟩:=at_T57 HR0.out x4_1 p155 q155
        cases e155
        replace hx155_0:=(HB.out.cell (World.block_lt_of_cell? w _ hx155_0)).trans hx155_0
        replace hx155_1:=(HB.out.cell (World.block_lt_of_cell? w _ hx155_1)).trans hx155_1
        replace hx155_2:=(HB.out.cell (World.block_lt_of_cell? w _ hx155_2)).trans hx155_2
        replace p155:=eq_true p155
        replace q155:=eq_true q155
        go_wp2_with (first|((with_reducible refine gate_callee (f:=29) rfl ?_);refine goesL_ (some 20) rfl rfl Tryd.func29 (by kernel_rfl) rfl #[.agg #[.int .i64 ((rd_T57 l0 x4_1).f0),.int .i64 ((rd_T57 l0 x4_1).f1),.int .i64 ((rd_T57 l0 x4_1).f2)]] rfl (by (try simp only [List.map_toArray,List.map_cons,List.map_nil]);first|done|rfl|(simp only [List.length_drop,List.length_take];rfl)) ?_;(with_reducible refine (laws_toEvent.calls ((rd_T57 l0 x4_1).f0) ((rd_T57 l0 x4_1).f1) ((rd_T57 l0 x4_1).f2) t156 t157 t158 _ A8.out).mono ?_);rintro e w11 ⟨rfl,hb⟩;refine ⟨_,rfl,?_⟩;have n0_:=Aside0.mk (Kd.R_below (by (with_reducible repeat (first|apply Kd.R_alloc|apply Kd.R_drewN|apply Kd.R_drew));exact HO_3.out) hb);have n1_:=Aside0.mk (below_step (by repeat (first|(with_reducible first|exact HB.out|apply below_alloc|apply pw_below_drewN|apply below_drew1)|exact HB.out)) hb);clear HO_3;clear HB;have HO_3:=n0_;have HB:=n1_;clear n0_ n1_;(try clear hb);(try clear hb2);(try clear hk);(try clear hi);have p10:0≤(x4_1:Int):=of_decide_eq_true (by first|(with_reducible assumption)|assumption);have q10:(x4_1:Int)<((x3_1.length:Int):Int):=of_decide_eq_true (by first|(with_reducible assumption)|assumption);obtain ⟨go10,co10,eo10,gb10,gl10,cl10,HG10⟩:=Kd.R_form HO_3.out (by omega);(first|cases eo10|(injection eo10 with ea_ en_ ec_;(first|subst ea_|(injection ea_ with ea_;subst ea_));subst ec_;clear en_));have GB10:=Aside0.mk gb10;have GG10:=Aside0.mk HG10;clear gb10 gl10 HG10;obtain ⟨ce10,hcl10,hM10,hcc10,hfr10⟩:=Kd.R_elem HO_3.out z52 (x4_1:Int) p10 q10;obtain rfl:=k52_openM hM10;have hx10_0:w11.cell? ⟨go10,(x4_1:Int).toNat * 3,none⟩=some (.int .i64 ((rd_T52 x3_1 x4_1).f0)):=hcc10 0 _ rfl;have hx10_1:w11.cell? ⟨go10,(x4_1:Int).toNat * 3+1,none⟩=some (.int .i64 ((rd_T52 x3_1 x4_1).f1)):=hcc10 1 _ rfl;have hx10_2:w11.cell? ⟨go10,(x4_1:Int).toNat * 3+2,none⟩=some (.int .i64 ((rd_T52 x3_1 x4_1).f2)):=hcc10 2 _ rfl;have hf10_0:w11.frozen? ⟨go10,(x4_1:Int).toNat * 3,none⟩=false:=hfr10 0;have hf10_1:w11.frozen? ⟨go10,(x4_1:Int).toNat * 3+1,none⟩=false:=hfr10 1;have hf10_2:w11.frozen? ⟨go10,(x4_1:Int).toNat * 3+2,none⟩=false:=hfr10 2;clear hcl10 hcc10 hfr10 hM10;replace p10:=eq_true p10;replace q10:=eq_true q10;have HX12:=Aside0.mk (show Kd.R k52 52 w11 w.heap.size (fun _=>True) (.slice (some ⟨go10,0,none⟩) x3_1.length co10) x3_1 from (by (with_reducible repeat (first|apply Kd.R_alloc|apply Kd.R_drewN|apply Kd.R_drew));exact HO_3.out));obtain ⟨ce12,hcl12,hM12,hcc12,hfr12⟩:=Kd.R_elem HX12.out z52 (x4_1:Int) (of_decide_eq_true (by first|(with_reducible assumption)|assumption)) (by have h_:(x4_1:Int)<((x3_1.length:Int):Int):=of_decide_eq_true (by first|(with_reducible assumption)|assumption);first|exact h_|(have e_:=(Kd.R_reads' HO_3.out).1;omega)|simpa using h_);obtain rfl:=k52_openM hM12;have HP12:=Kd.R_seg HX12.out (x4_1:Int) (of_decide_eq_true (by first|(with_reducible assumption)|assumption)) (by have h_:(x4_1:Int)<((x3_1.length:Int):Int):=of_decide_eq_true (by first|(with_reducible assumption)|assumption);first|exact h_|(have e_:=(Kd.R_reads' HO_3.out).1;omega)|simpa using h_) (seg:=[.int .i64 t156,.int .i64 t157,.int .i64 t158]) (j:=0) hcl12 hcc12 (show 3≤3 from by decide) (x':=(⟨t156,t157,t158⟩:S52)) (k52_mkM _ _ _ (⟨t156,t157,t158⟩:S52) ) (fun _ hk=>hk);have hx12_0:=hcc12 0 _ rfl;(try simp only [show (k52).sz=3 from rfl,Nat.mul_one,Nat.add_zero] at hx12_0);have hf12_0:=hfr12 0;(try simp only [show (k52).sz=3 from rfl,Nat.mul_one,Nat.add_zero] at hf12_0);have hx12_1:=hcc12 1 _ rfl;(try simp only [show (k52).sz=3 from rfl,Nat.mul_one,Nat.add_zero] at hx12_1);have hf12_1:=hfr12 1;(try simp only [show (k52).sz=3 from rfl,Nat.mul_one,Nat.add_zero] at hf12_1);have hx12_2:=hcc12 2 _ rfl;(try simp only [show (k52).sz=3 from rfl,Nat.mul_one,Nat.add_zero] at hx12_2);have hf12_2:=hfr12 2;(try simp only [show (k52).sz=3 from rfl,Nat.mul_one,Nat.add_zero] at hf12_2);clear hcl12 hcc12 hfr12 hM12)|((with_reducible refine gate_store (t:=52) (p:=21) rfl ?_);refine store_event (t:=52) (p:=21) (v:=?vo_w13) (w1:=(((w11.setCell ⟨go10,(x4_1:Int).toNat * 3,none⟩ (.int .i64 t156)).setCell ⟨go10,(x4_1:Int).toNat * 3+1,none⟩ (.int .i64 t157)).setCell ⟨go10,(x4_1:Int).toNat * 3+2,none⟩ (.int .i64 t158))) ?hg ?ho ?hn ?hr ?_;(case ho=>rfl);(case hg=>rfl);(case hn=>rfl);(case hr=>first|(go_simp;done)|(go_simp;rfl));intro w13 hw;have hg:w11.grownBy w13 (some go10):=(by rw [hw];exact HP12.2);have hp_:Kd.R k52 52 w13 w.heap.size (fun _=>True) (.slice (some ⟨go10,0,none⟩) x3_1.length co10) y159:=(by rw [hw,Ny159.out];exact HP12.1);clear HP12;have n0_:=Aside0.mk (hp_);have n1_:=Aside0.mk ((by rw [hw];exact below_set (below_set (below_set (HB.out) GB10.out) GB10.out) GB10.out:Below w.heap.size w w13));clear HO_3;clear HB;have HO_3:=n0_;have HB:=n1_;clear n0_ n1_;clear hg hw hp_))
        go_roundg k1
        case measure=>have:=HK1.out;omega
        case rel=>exact ⟨(y159),(wrap64 (x4_1+1)),(by first|rfl|(simp;done)|(simp [*];done)),H',⟨by have:=HK1.out;omega⟩,⟨by (with_reducible repeat (first|apply Kd.R_alloc|apply Kd.R_drewN|apply Kd.R_drew));exact HO_3.out⟩,⟨by repeat (first|(with_reducible first|exact HB.out|apply below_alloc|apply pw_below_drewN|apply below_drew1)|exact HB.out)⟩⟩
       rw [if_neg c9] at H
       exact absurd H (by simp)
      rw [if_neg c7] at H
      exact absurd H (by simp)
     rw [if_neg c6] at H
     have c6b0:decide (x4_1<(l0.length:Int))=false:=decide_eq_false c6
     clear c6
     obtain rfl:=Option.some.inj H
     go_wp2
     go_ret
     exact ⟨_,by first|rfl|(simp [errW_none,errW_some] <;> rfl)|(simp [*,errW_none,errW_some] <;> rfl),by (with_reducible repeat (first|apply Kd.R_alloc|apply Kd.R_drewN|apply Kd.R_drew));exact HO_3.out,by repeat (first|(with_reducible first|exact HB.out|apply below_alloc|apply pw_below_drewN|apply below_drew1)|exact HB.out)⟩
  rw [if_neg c3] at H
  exact absurd H (by simp)
 rw [if_neg c2] at H
 exact absurd H (by simp)
end Go.Proofs.YtpdnabhpkdchjaaDoor.P
namespace Go.Proofs.YtpdnabhpkdchjaaDoor.P
open Go.RowKit Go.Proofs.YtpdnabhpkdchjaaDoorW.PrintWords Go.Proofs.YtpdnabhpkdchjaaDoorW.PrintLast Go.Proofs.YtpdnabhpkdchjaaDoorW.PrintMore
attribute [local go_sem] max2_int min2_int max_two min_two max_three min_three max_four min_four
set_option linter.unusedVariables false
set_option linter.unusedSimpArgs false
def laws_eqEvent.f (a0_0:Int) (a0_1:Int) (a0_2:Int) (a1_0:Int) (a1_1:Int) (a1_2:Int):Option (Bool):=if a0_0=a1_0 then (if a0_1=a1_1 then (if a0_2=a1_2 then (some true) else (some false)) else (some false)) else (some false)
set_option maxHeartbeats 8000000 in
set_option maxRecDepth 100000 in
theorem laws_eqEvent.calls (a0_0:Int) (a0_1:Int) (a0_2:Int) (a1_0:Int) (a1_1:Int) (a1_2:Int) (r:Bool) (w:World) (h:laws_eqEvent.f a0_0 a0_1 a0_2 a1_0 a1_1 a1_2=some r) :
  Calls Tryd.prog 37 #[.agg #[.int .i64 a0_0,.int .i64 a0_1,.int .i64 a0_2],.agg #[.int .i64 a1_0,.int .i64 a1_1,.int .i64 a1_2]] w fun e w'=>e=.returned (.bool r)∧Below w.heap.size w w':=by
 have hu52:=Tryd.underlying52
 have HB:=Aside0.mk (Below.refl w.heap.size w)
 have H:(if a0_0=a1_0 then (if a0_1=a1_1 then (if a0_2=a1_2 then (some true) else (some false)) else (some false)) else (some false))=some r:=h
 clear h
 by_cases c3:a0_0=a1_0
 ·rw [if_pos c3] at H
  have c3b0:(a0_0==a1_0)=true:=beq_iff_eq.mpr c3
  have c3b1:(a0_0 != a1_0)=false:=bne_eq_false_iff_eq.mpr c3
  clear c3
  by_cases c4:a0_1=a1_1
  ·rw [if_pos c4] at H
   have c4b0:(a0_1==a1_1)=true:=beq_iff_eq.mpr c4
   have c4b1:(a0_1 != a1_1)=false:=bne_eq_false_iff_eq.mpr c4
   clear c4
   by_cases c5:a0_2=a1_2
   ·rw [if_pos c5] at H
    have c5b0:(a0_2==a1_2)=true:=beq_iff_eq.mpr c5
    have c5b1:(a0_2 != a1_2)=false:=bne_eq_false_iff_eq.mpr c5
    clear c5
    obtain rfl:=Option.some.inj H
    go_enter Tryd.func37,Tryd.ntmps37
    go_wp2_with (first|((with_reducible refine gate_dst (N:=2) rfl ?_);refine box_event ?hg (N:=2) ?hd (cs:=#[.int .i64 a0_0,.int .i64 a0_1,.int .i64 a0_2]) (t:=52) ?hr ?_;(case hd=>rfl);(case hg=>rfl);(case hr=>first|(go_simp;done)|(go_simp;rfl));intro gb193 hg w6 hbox hb;have n0_:=Aside0.mk (below_step (by repeat (first|(with_reducible first|exact HB.out|apply below_alloc|apply pw_below_drewN|apply below_drew1)|exact HB.out)) hb);have n1_:=Aside0.mk (hbox);have n2_:=Aside0.mk ((by rw [hg];exact (below_size (by repeat (first|(with_reducible first|exact HB.out|apply below_alloc|apply pw_below_drewN|apply below_drew1)|exact HB.out))):w.heap.size≤gb193));have n3_:=Aside0.mk ((by rw [hg];exact (below_size (by repeat (first|(with_reducible first|exact HB.out|apply below_alloc|apply pw_below_drewN|apply below_drew1)|exact HB.out))):w.heap.size≤gb193));clear HB;have HB:=n0_;have BK193:=n1_;have GW193:=n2_;have GE193:=n3_;clear n0_ n1_ n2_ n3_;clear hb hbox hg)|((with_reducible refine gate_dst (N:=3) rfl ?_);refine box_event ?hg (N:=3) ?hd (cs:=#[.int .i64 a1_0,.int .i64 a1_1,.int .i64 a1_2]) (t:=52) ?hr ?_;(case hd=>rfl);(case hg=>rfl);(case hr=>first|(go_simp;done)|(go_simp;rfl));intro gb194 hg w7 hbox hb;have n0_:=Aside0.mk (blk_below (g:=gb193) (o:=.cells #[.int .i64 a0_0,.int .i64 a0_1,.int .i64 a0_2] 52 (0,0)) (by (with_reducible repeat (first|refine blk_drewN ?_ _|refine blk_drew ?_|refine blk_alloc ?_ _));exact BK193.out) hb);have n1_:=Aside0.mk (below_step (by repeat (first|(with_reducible first|exact HB.out|apply below_alloc|apply pw_below_drewN|apply below_drew1|refine below_set ?_ GE193.out)|exact HB.out)) hb);have n2_:=Aside0.mk (hbox);have n3_:=Aside0.mk ((by rw [hg];exact (below_size (by repeat (first|(with_reducible first|exact HB.out|apply below_alloc|apply pw_below_drewN|apply below_drew1|refine below_set ?_ GE193.out)|exact HB.out))):w.heap.size≤gb194));have n4_:=Aside0.mk ((by rw [hg];exact (below_size (by repeat (first|(with_reducible first|exact HB.out|apply below_alloc|apply pw_below_drewN|apply below_drew1|refine below_set ?_ GE193.out)|exact HB.out))):w.heap.size≤gb194));have n5_:=Aside0.mk ((by rw [hg];exact Nat.ne_of_lt (blk_lt (g:=gb193) (o:=.cells #[.int .i64 a0_0,.int .i64 a0_1,.int .i64 a0_2] 52 (0,0)) (by (with_reducible repeat (first|refine blk_drewN ?_ _|refine blk_drew ?_|refine blk_alloc ?_ _));exact BK193.out)):gb193 ≠ gb194));have n6_:=Aside0.mk ((by rw [hg];exact Nat.ne_of_gt (blk_lt (g:=gb193) (o:=.cells #[.int .i64 a0_0,.int .i64 a0_1,.int .i64 a0_2] 52 (0,0)) (by (with_reducible repeat (first|refine blk_drewN ?_ _|refine blk_drew ?_|refine blk_alloc ?_ _));exact BK193.out)):gb194 ≠ gb193));clear BK193;clear HB;have BK193:=n0_;have HB:=n1_;have BK194:=n2_;have GW194:=n3_;have GE194:=n4_;have NB193_194:=n5_;have NB194_193:=n6_;clear n0_ n1_ n2_ n3_ n4_ n5_ n6_;clear hb hbox hg;have hnb8:=NB193_194.out;have hnc8:=NB194_193.out;have hcz9_0:w7.cell? ⟨gb193,0,none⟩=some (.int .i64 a0_0):=(blk_cell BK193.out 0).trans rfl;have hcz9_1:w7.cell? ⟨gb193,1,none⟩=some (.int .i64 a0_1):=(blk_cell BK193.out 1).trans rfl;have hcz9_2:w7.cell? ⟨gb193,2,none⟩=some (.int .i64 a0_2):=(blk_cell BK193.out 2).trans rfl;have hfz9_0:=blk_frozen BK193.out 0;have hfz9_1:=blk_frozen BK193.out 1;have hfz9_2:=blk_frozen BK193.out 2;have hcz10_0:w7.cell? ⟨gb194,0,none⟩=some (.int .i64 a1_0):=(blk_cell BK194.out 0).trans rfl;have hcz10_1:w7.cell? ⟨gb194,1,none⟩=some (.int .i64 a1_1):=(blk_cell BK194.out 1).trans rfl;have hcz10_2:w7.cell? ⟨gb194,2,none⟩=some (.int .i64 a1_2):=(blk_cell BK194.out 2).trans rfl;have hfz10_0:=blk_frozen BK194.out 0;have hfz10_1:=blk_frozen BK194.out 1;have hfz10_2:=blk_frozen BK194.out 2))
    go_ret
    exact ⟨by first|rfl|(simp [errW_none,errW_some] <;> rfl)|(simp [*,errW_none,errW_some] <;> rfl),by repeat (first|(with_reducible first|exact HB.out|apply below_alloc|apply pw_below_drewN|apply below_drew1|refine below_set ?_ GE193.out|refine below_set ?_ GE194.out)|exact HB.out)⟩
   rw [if_neg c5] at H
   have c5b0:(a0_2==a1_2)=false:=beq_eq_false_iff_ne.mpr c5
   have c5b1:(a0_2 != a1_2)=true:=bne_iff_ne.mpr c5
   obtain rfl:=Option.some.inj H
   go_enter Tryd.func37,Tryd.ntmps37
   go_wp2_with (first|((with_reducible refine gate_dst (N:=2) rfl ?_);refine box_event ?hg (N:=2) ?hd (cs:=#[.int .i64 a0_0,.int .i64 a0_1,.int .i64 a0_2]) (t:=52) ?hr ?_;(case hd=>rfl);(case hg=>rfl);(case hr=>first|(go_simp;done)|(go_simp;rfl));intro gb193 hg w11 hbox hb;have n0_:=Aside0.mk (below_step (by repeat (first|(with_reducible first|exact HB.out|apply below_alloc|apply pw_below_drewN|apply below_drew1)|exact HB.out)) hb);have n1_:=Aside0.mk (hbox);have n2_:=Aside0.mk ((by rw [hg];exact (below_size (by repeat (first|(with_reducible first|exact HB.out|apply below_alloc|apply pw_below_drewN|apply below_drew1)|exact HB.out))):w.heap.size≤gb193));have n3_:=Aside0.mk ((by rw [hg];exact (below_size (by repeat (first|(with_reducible first|exact HB.out|apply below_alloc|apply pw_below_drewN|apply below_drew1)|exact HB.out))):w.heap.size≤gb193));clear HB;have HB:=n0_;have BK193:=n1_;have GW193:=n2_;have GE193:=n3_;clear n0_ n1_ n2_ n3_;clear hb hbox hg)|((with_reducible refine gate_dst (N:=3) rfl ?_);refine box_event ?hg (N:=3) ?hd (cs:=#[.int .i64 a1_0,.int .i64 a1_1,.int .i64 a1_2]) (t:=52) ?hr ?_;(case hd=>rfl);(case hg=>rfl);(case hr=>first|(go_simp;done)|(go_simp;rfl));intro gb194 hg w12 hbox hb;have n0_:=Aside0.mk (blk_below (g:=gb193) (o:=.cells #[.int .i64 a0_0,.int .i64 a0_1,.int .i64 a0_2] 52 (0,0)) (by (with_reducible repeat (first|refine blk_drewN ?_ _|refine blk_drew ?_|refine blk_alloc ?_ _));exact BK193.out) hb);have n1_:=Aside0.mk (below_step (by repeat (first|(with_reducible first|exact HB.out|apply below_alloc|apply pw_below_drewN|apply below_drew1|refine below_set ?_ GE193.out)|exact HB.out)) hb);have n2_:=Aside0.mk (hbox);have n3_:=Aside0.mk ((by rw [hg];exact (below_size (by repeat (first|(with_reducible first|exact HB.out|apply below_alloc|apply pw_below_drewN|apply below_drew1|refine below_set ?_ GE193.out)|exact HB.out))):w.heap.size≤gb194));have n4_:=Aside0.mk ((by rw [hg];exact (below_size (by repeat (first|(with_reducible first|exact HB.out|apply below_alloc|apply pw_below_drewN|apply below_drew1|refine below_set ?_ GE193.out)|exact HB.out))):w.heap.size≤gb194));have n5_:=Aside0.mk ((by rw [hg];exact Nat.ne_of_lt (blk_lt (g:=gb193) (o:=.cells #[.int .i64 a0_0,.int .i64 a0_1,.int .i64 a0_2] 52 (0,0)) (by (with_reducible repeat (first|refine blk_drewN ?_ _|refine blk_drew ?_|refine blk_alloc ?_ _));exact BK193.out)):gb193 ≠ gb194));have n6_:=Aside0.mk ((by rw [hg];exact Nat.ne_of_gt (blk_lt (g:=gb193) (o:=.cells #[.int .i64 a0_0,.int .i64 a0_1,.int .i64 a0_2] 52 (0,0)) (by (with_reducible repeat (first|refine blk_drewN ?_ _|refine blk_drew ?_|refine blk_alloc ?_ _));exact BK193.out)):gb194 ≠ gb193));clear BK193;clear HB;have BK193:=n0_;have HB:=n1_;have BK194:=n2_;have GW194:=n3_;have GE194:=n4_;have NB193_194:=n5_;have NB194_193:=n6_;clear n0_ n1_ n2_ n3_ n4_ n5_ n6_;clear hb hbox hg;have hnb13:=NB193_194.out;have hnc13:=NB194_193.out;have hcz14_0:w12.cell? ⟨gb193,0,none⟩=some (.int .i64 a0_0):=(blk_cell BK193.out 0).trans rfl;have hcz14_1:w12.cell? ⟨gb193,1,none⟩=some (.int .i64 a0_1):=(blk_cell BK193.out 1).trans rfl;have hcz14_2:w12.cell? ⟨gb193,2,none⟩=some (.int .i64 a0_2):=(blk_cell BK193.out 2).trans rfl;have hfz14_0:=blk_frozen BK193.out 0;have hfz14_1:=blk_frozen BK193.out 1;have hfz14_2:=blk_frozen BK193.out 2;have hcz15_0:w12.cell? ⟨gb194,0,none⟩=some (.int .i64 a1_0):=(blk_cell BK194.out 0).trans rfl;have hcz15_1:w12.cell? ⟨gb194,1,none⟩=some (.int .i64 a1_1):=(blk_cell BK194.out 1).trans rfl;have hcz15_2:w12.cell? ⟨gb194,2,none⟩=some (.int .i64 a1_2):=(blk_cell BK194.out 2).trans rfl;have hfz15_0:=blk_frozen BK194.out 0;have hfz15_1:=blk_frozen BK194.out 1;have hfz15_2:=blk_frozen BK194.out 2))
   go_ret
   exact ⟨by first|rfl|(simp [errW_none,errW_some] <;> rfl)|(simp [*,errW_none,errW_some] <;> rfl),by repeat (first|(with_reducible first|exact HB.out|apply below_alloc|apply pw_below_drewN|apply below_drew1|refine below_set ?_ GE193.out|refine below_set ?_ GE194.out)|exact HB.out)⟩
  rw [if_neg c4] at H
  have c4b0:(a0_1==a1_1)=false:=beq_eq_false_iff_ne.mpr c4
  have c4b1:(a0_1 != a1_1)=true:=bne_iff_ne.mpr c4
  obtain rfl:=Option.some.inj H
  go_enter Tryd.func37,Tryd.ntmps37
  go_wp2_with (first|((with_reducible refine gate_dst (N:=2) rfl ?_);refine box_event ?hg (N:=2) ?hd (cs:=#[.int .i64 a0_0,.int .i64 a0_1,.int .i64 a0_2]) (t:=52) ?hr ?_;(case hd=>rfl);(case hg=>rfl);(case hr=>first|(go_simp;done)|(go_simp;rfl));intro gb193 hg w16 hbox hb;have n0_:=Aside0.mk (below_step (by repeat (first|(with_reducible first|exact HB.out|apply below_alloc|apply pw_below_drewN|apply below_drew1)|exact HB.out)) hb);have n1_:=Aside0.mk (hbox);have n2_:=Aside0.mk ((by rw [hg];exact (below_size (by repeat (first|(with_reducible first|exact HB.out|apply below_alloc|apply pw_below_drewN|apply below_drew1)|exact HB.out))):w.heap.size≤gb193));have n3_:=Aside0.mk ((by rw [hg];exact (below_size (by repeat (first|(with_reducible first|exact HB.out|apply below_alloc|apply pw_below_drewN|apply below_drew1)|exact HB.out))):w.heap.size≤gb193));clear HB;have HB:=n0_;have BK193:=n1_;have GW193:=n2_;have GE193:=n3_;clear n0_ n1_ n2_ n3_;clear hb hbox hg)|((with_reducible refine gate_dst (N:=3) rfl ?_);refine box_event ?hg (N:=3) ?hd (cs:=#[.int .i64 a1_0,.int .i64 a1_1,.int .i64 a1_2]) (t:=52) ?hr ?_;(case hd=>rfl);(case hg=>rfl);(case hr=>first|(go_simp;done)|(go_simp;rfl));intro gb194 hg w17 hbox hb;have n0_:=Aside0.mk (blk_below (g:=gb193) (o:=.cells #[.int .i64 a0_0,.int .i64 a0_1,.int .i64 a0_2] 52 (0,0)) (by (with_reducible repeat (first|refine blk_drewN ?_ _|refine blk_drew ?_|refine blk_alloc ?_ _));exact BK193.out) hb);have n1_:=Aside0.mk (below_step (by repeat (first|(with_reducible first|exact HB.out|apply below_alloc|apply pw_below_drewN|apply below_drew1|refine below_set ?_ GE193.out)|exact HB.out)) hb);have n2_:=Aside0.mk (hbox);have n3_:=Aside0.mk ((by rw [hg];exact (below_size (by repeat (first|(with_reducible first|exact HB.out|apply below_alloc|apply pw_below_drewN|apply below_drew1|refine below_set ?_ GE193.out)|exact HB.out))):w.heap.size≤gb194));have n4_:=Aside0.mk ((by rw [hg];exact (below_size (by repeat (first|(with_reducible first|exact HB.out|apply below_alloc|apply pw_below_drewN|apply below_drew1|refine below_set ?_ GE193.out)|exact HB.out))):w.heap.size≤gb194));have n5_:=Aside0.mk ((by rw [hg];exact Nat.ne_of_lt (blk_lt (g:=gb193) (o:=.cells #[.int .i64 a0_0,.int .i64 a0_1,.int .i64 a0_2] 52 (0,0)) (by (with_reducible repeat (first|refine blk_drewN ?_ _|refine blk_drew ?_|refine blk_alloc ?_ _));exact BK193.out)):gb193 ≠ gb194));have n6_:=Aside0.mk ((by rw [hg];exact Nat.ne_of_gt (blk_lt (g:=gb193) (o:=.cells #[.int .i64 a0_0,.int .i64 a0_1,.int .i64 a0_2] 52 (0,0)) (by (with_reducible repeat (first|refine blk_drewN ?_ _|refine blk_drew ?_|refine blk_alloc ?_ _));exact BK193.out)):gb194 ≠ gb193));clear BK193;clear HB;have BK193:=n0_;have HB:=n1_;have BK194:=n2_;have GW194:=n3_;have GE194:=n4_;have NB193_194:=n5_;have NB194_193:=n6_;clear n0_ n1_ n2_ n3_ n4_ n5_ n6_;clear hb hbox hg;have hnb18:=NB193_194.out;have hnc18:=NB194_193.out;have hcz19_0:w17.cell? ⟨gb193,0,none⟩=some (.int .i64 a0_0):=(blk_cell BK193.out 0).trans rfl;have hcz19_1:w17.cell? ⟨gb193,1,none⟩=some (.int .i64 a0_1):=(blk_cell BK193.out 1).trans rfl;have hcz19_2:w17.cell? ⟨gb193,2,none⟩=some (.int .i64 a0_2):=(blk_cell BK193.out 2).trans rfl;have hfz19_0:=blk_frozen BK193.out 0;have hfz19_1:=blk_frozen BK193.out 1;have hfz19_2:=blk_frozen BK193.out 2;have hcz20_0:w17.cell? ⟨gb194,0,none⟩=some (.int .i64 a1_0):=(blk_cell BK194.out 0).trans rfl;have hcz20_1:w17.cell? ⟨gb194,1,none⟩=some (.int .i64 a1_1):=(blk_cell BK194.out 1).trans rfl;have hcz20_2:w17.cell? ⟨gb194,2,none⟩=some (.int .i64 a1_2):=(blk_cell BK194.out 2).trans rfl;have hfz20_0:=blk_frozen BK194.out 0;have hfz20_1:=blk_frozen BK194.out 1;have hfz20_2:=blk_frozen BK194.out 2))
  go_ret
  exact ⟨by first|rfl|(simp [errW_none,errW_some] <;> rfl)|(simp [*,errW_none,errW_some] <;> rfl),by repeat (first|(with_reducible first|exact HB.out|apply below_alloc|apply pw_below_drewN|apply below_drew1|refine below_set ?_ GE193.out|refine below_set ?_ GE194.out)|exact HB.out)⟩
 rw [if_neg c3] at H
 have c3b0:(a0_0==a1_0)=false:=beq_eq_false_iff_ne.mpr c3
 have c3b1:(a0_0 != a1_0)=true:=bne_iff_ne.mpr c3
 obtain rfl:=Option.some.inj H
 go_enter Tryd.func37,Tryd.ntmps37
 go_wp2_with (first|((with_reducible refine gate_dst (N:=2) rfl ?_);refine box_event ?hg (N:=2) ?hd (cs:=#[.int .i64 a0_0,.int .i64 a0_1,.int .i64 a0_2]) (t:=52) ?hr ?_;(case hd=>rfl);(case hg=>rfl);(case hr=>first|(go_simp;done)|(go_simp;rfl));intro gb193 hg w21 hbox hb;have n0_:=Aside0.mk (below_step (by repeat (first|(with_reducible first|exact HB.out|apply below_alloc|apply pw_below_drewN|apply below_drew1)|exact HB.out)) hb);have n1_:=Aside0.mk (hbox);have n2_:=Aside0.mk ((by rw [hg];exact (below_size (by repeat (first|(with_reducible first|exact HB.out|apply below_alloc|apply pw_below_drewN|apply below_drew1)|exact HB.out))):w.heap.size≤gb193));have n3_:=Aside0.mk ((by rw [hg];exact (below_size (by repeat (first|(with_reducible first|exact HB.out|apply below_alloc|apply pw_below_drewN|apply below_drew1)|exact HB.out))):w.heap.size≤gb193));clear HB;have HB:=n0_;have BK193:=n1_;have GW193:=n2_;have GE193:=n3_;clear n0_ n1_ n2_ n3_;clear hb hbox hg)|((with_reducible refine gate_dst (N:=3) rfl ?_);refine box_event ?hg (N:=3) ?hd (cs:=#[.int .i64 a1_0,.int .i64 a1_1,.int .i64 a1_2]) (t:=52) ?hr ?_;(case hd=>rfl);(case hg=>rfl);(case hr=>first|(go_simp;done)|(go_simp;rfl));intro gb194 hg w22 hbox hb;have n0_:=Aside0.mk (blk_below (g:=gb193) (o:=.cells #[.int .i64 a0_0,.int .i64 a0_1,.int .i64 a0_2] 52 (0,0)) (by (with_reducible repeat (first|refine blk_drewN ?_ _|refine blk_drew ?_|refine blk_alloc ?_ _));exact BK193.out) hb);have n1_:=Aside0.mk (below_step (by repeat (first|(with_reducible first|exact HB.out|apply below_alloc|apply pw_below_drewN|apply below_drew1|refine below_set ?_ GE193.out)|exact HB.out)) hb);have n2_:=Aside0.mk (hbox);have n3_:=Aside0.mk ((by rw [hg];exact (below_size (by repeat (first|(with_reducible first|exact HB.out|apply below_alloc|apply pw_below_drewN|apply below_drew1|refine below_set ?_ GE193.out)|exact HB.out))):w.heap.size≤gb194));have n4_:=Aside0.mk ((by rw [hg];exact (below_size (by repeat (first|(with_reducible first|exact HB.out|apply below_alloc|apply pw_below_drewN|apply below_drew1|refine below_set ?_ GE193.out)|exact HB.out))):w.heap.size≤gb194));have n5_:=Aside0.mk ((by rw [hg];exact Nat.ne_of_lt (blk_lt (g:=gb193) (o:=.cells #[.int .i64 a0_0,.int .i64 a0_1,.int .i64 a0_2] 52 (0,0)) (by (with_reducible repeat (first|refine blk_drewN ?_ _|refine blk_drew ?_|refine blk_alloc ?_ _));exact BK193.out)):gb193 ≠ gb194));have n6_:=Aside0.mk ((by rw [hg];exact Nat.ne_of_gt (blk_lt (g:=gb193) (o:=.cells #[.int .i64 a0_0,.int .i64 a0_1,.int .i64 a0_2] 52 (0,0)) (by (with_reducible repeat (first|refine blk_drewN ?_ _|refine blk_drew ?_|refine blk_alloc ?_ _));exact BK193.out)):gb194 ≠ gb193));clear BK193;clear HB;have BK193:=n0_;have HB:=n1_;have BK194:=n2_;have GW194:=n3_;have GE194:=n4_;have NB193_194:=n5_;have NB194_193:=n6_;clear n0_ n1_ n2_ n3_ n4_ n5_ n6_;clear hb hbox hg;have hnb23:=NB193_194.out;have hnc23:=NB194_193.out;have hcz24_0:w22.cell? ⟨gb193,0,none⟩=some (.int .i64 a0_0):=(blk_cell BK193.out 0).trans rfl;have hcz24_1:w22.cell? ⟨gb193,1,none⟩=some (.int .i64 a0_1):=(blk_cell BK193.out 1).trans rfl;have hcz24_2:w22.cell? ⟨gb193,2,none⟩=some (.int .i64 a0_2):=(blk_cell BK193.out 2).trans rfl;have hfz24_0:=blk_frozen BK193.out 0;have hfz24_1:=blk_frozen BK193.out 1;have hfz24_2:=blk_frozen BK193.out 2;have hcz25_0:w22.cell? ⟨gb194,0,none⟩=some (.int .i64 a1_0):=(blk_cell BK194.out 0).trans rfl;have hcz25_1:w22.cell? ⟨gb194,1,none⟩=some (.int .i64 a1_1):=(blk_cell BK194.out 1).trans rfl;have hcz25_2:w22.cell? ⟨gb194,2,none⟩=some (.int .i64 a1_2):=(blk_cell BK194.out 2).trans rfl;have hfz25_0:=blk_frozen BK194.out 0;have hfz25_1:=blk_frozen BK194.out 1;have hfz25_2:=blk_frozen BK194.out 2))
 go_ret
 exact ⟨by first|rfl|(simp [errW_none,errW_some] <;> rfl)|(simp [*,errW_none,errW_some] <;> rfl),by repeat (first|(with_reducible first|exact HB.out|apply below_alloc|apply pw_below_drewN|apply below_drew1|refine below_set ?_ GE193.out|refine below_set ?_ GE194.out)|exact HB.out)⟩
end Go.Proofs.YtpdnabhpkdchjaaDoor.P
namespace Go.Proofs.YtpdnabhpkdchjaaDoor.P
open Go.RowKit Go.Proofs.YtpdnabhpkdchjaaDoorW.PrintWords Go.Proofs.YtpdnabhpkdchjaaDoorW.PrintLast Go.Proofs.YtpdnabhpkdchjaaDoorW.PrintMore
attribute [local go_sem] max2_int min2_int max_two min_two max_three min_three max_four min_four
set_option linter.unusedVariables false
set_option linter.unusedSimpArgs false
def laws_eqEventS.l0:Nat→List (S52)→List (S52)→Int→Option (Bool)
 | 0,_,_,_=>none
 | k+1,x0,x1,x5=>if x5<(x0.length:Int) then (if 0≤x5 then (if x5<(x1.length:Int) then ((laws_eqEvent.f ((rd_T52 x0 x5).f0) ((rd_T52 x0 x5).f1) ((rd_T52 x0 x5).f2) ((rd_T52 x1 x5).f0) ((rd_T52 x1 x5).f1) ((rd_T52 x1 x5).f2)).bind fun t197=>(if t197=true then (laws_eqEventS.l0 k x0 x1 (wrap64 (x5+1))) else (some false))) else (none)) else (none)) else (some true)
def laws_eqEventS.f (k:Nat) (l0:List (S52)) (l1:List (S52)):Option (Bool):=if (l0.length:Int)=(l1.length:Int) then (laws_eqEventS.l0 k l0 l1 0) else (some false)
def laws_eqEventS.T6:Bool × List (List Nat × List Nat):=(true,[([],[]),([],[]),([0,1],[0,1]),([2],[2]),([],[]),([],[]),([4,5],[4,5]),([6],[6]),([3,7],[3,7]),([8],[8])])
def laws_eqEventS.B6:List Nat:=[0,0,3,7,0,0,48,112,255,511]
theorem laws_eqEventS.tab6:rtab .any (opsOf Tryd.f14 6)=laws_eqEventS.T6:=by kernel_rfl
theorem laws_eqEventS.bits6:waitsOk laws_eqEventS.T6.2 laws_eqEventS.B6=true:=by kernel_rfl
set_option maxHeartbeats 8000000 in
set_option maxRecDepth 100000 in
theorem laws_eqEventS.calls (k:Nat) (A0:Option Addr) (c0:Nat) (l0:List (S52)) (A1:Option Addr) (c1:Nat) (l1:List (S52)) (r:Bool) (w:World) (hr0:Kd.C k52 w A0 l0.length l0) (hc0:l0.length≤c0) (hr1:Kd.C k52 w A1 l1.length l1) (hc1:l1.length≤c1) (h:laws_eqEventS.f k l0 l1=some r) :
  Calls Tryd.prog 14 #[.slice A0 l0.length c0,.slice A1 l1.length c1] w fun e w'=>e=.returned (.bool r)∧Below w.heap.size w w':=by
 have hu52:=Tryd.underlying52
 have HR0:=Aside0.mk hr0
 have HC0:=Aside0.mk hc0
 clear hr0 hc0
 have HR1:=Aside0.mk hr1
 have HC1:=Aside0.mk hc1
 clear hr1 hc1
 have HB:=Aside0.mk (Below.refl w.heap.size w)
 have H:(if (l0.length:Int)=(l1.length:Int) then (laws_eqEventS.l0 k l0 l1 0) else (some false))=some r:=h
 clear h
 by_cases c3:(l0.length:Int)=(l1.length:Int)
 ·rw [if_pos c3] at H
  have c3b0:((l0.length:Int)==(l1.length:Int))=true:=beq_iff_eq.mpr c3
  have c3b1:((l0.length:Int) != (l1.length:Int))=false:=bne_eq_false_iff_eq.mpr c3
  have c3b2:(l0.length==l1.length)=true:=by first|simpa using c3|(simp at c3 ⊢;omega)
  clear c3
  have H':=Aside0.mk H
  clear H
  go_enter Tryd.func14,Tryd.ntmps14
  go_wp2
  go_loopg [5] k (fun kq v5 w'=>∃ (x5_1:Int),v5=.int .i64 x5_1∧Aside0 (laws_eqEventS.l0 kq l0 l1 x5_1=some r)∧Aside0 (kq≤k)∧Aside0 (Below w.heap.size w w'))
  case atStart=>exact ⟨(0),(by first|rfl|(simp;done)|(simp [*];done)),H',⟨Nat.le_refl _⟩,⟨by repeat (first|(with_reducible first|exact HB.out|apply below_alloc|apply pw_below_drewN|apply below_drew1)|exact HB.out)⟩⟩
  case round =>
   clear H'
   try clear c1
   try clear p2
   try clear c3
   try clear c3b0
   try clear c3b1
   try clear c3b2
   obtain ⟨x5_1,rfl,HA,HK1,HB⟩:=hrel
   cases gk with
   | zero=>exact absurd HA.out (by simp [laws_eqEventS.l0])
   | succ k1 =>
    have H:=HA.out
    clear HA
    simp only [laws_eqEventS.l0] at H
    by_cases c4:x5_1<(l0.length:Int)
    ·rw [if_pos c4] at H
     have c4b0:decide (x5_1<(l0.length:Int))=true:=decide_eq_true c4
     clear c4
     by_cases c5:0≤x5_1
     ·rw [if_pos c5] at H
      have c5b0:decide (0≤x5_1)=true:=decide_eq_true c5
      clear c5
      by_cases c6:x5_1<(l1.length:Int)
      ·rw [if_pos c6] at H
       have c6b0:decide (x5_1<(l1.length:Int))=true:=decide_eq_true c6
       clear c6
       replace H:=Option.bind_eq_some_iff.mp H
       obtain ⟨t197,A70,H⟩:=H
       replace H:(if t197=true then (laws_eqEventS.l0 k1 l0 l1 (wrap64 (x5_1+1))) else (some false))=some r:=H
       have A7:=Aside0.mk A70
       clear A70
       by_cases c8:t197=true
       ·subst c8
        have H1:(laws_eqEventS.l0 k1 l0 l1 (wrap64 (x5_1+1)))=some r:=by rw [if_pos rfl] at H;exact H
        clear H
        have H:=H1
        clear H1
        have H':=Aside0.mk H
        clear H
        try go_wp2
        have n0_:=Aside0.mk (below_drew1 HB.out)
        clear HB
        have HB:=n0_
        clear n0_
        have p195:0≤(x5_1:Int):=of_decide_eq_true (by first|(with_reducible assumption)|assumption)
        have q195:x5_1<(l0.length:Int):=of_decide_eq_true (by first|(with_reducible assumption)|assumption)
        obtain ⟨ad195,e195,hx195_0,hx195_1,hx195_2⟩:=at_T52 HR0.out x5_1 p195 q195
        have hw195_2:=hx195_2
        have hw195_1:=hx195_1
        have hw195_0:=hx195_0
        cases e195
        replace hx195_0:=(HB.out.cell (World.block_lt_of_cell? w _ hx195_0)).trans hx195_0
        replace hx195_1:=(HB.out.cell (World.block_lt_of_cell? w _ hx195_1)).trans hx195_1
        replace hx195_2:=(HB.out.cell (World.block_lt_of_cell? w _ hx195_2)).trans hx195_2
        replace p195:=eq_true p195
        replace q195:=eq_true q195
        have p196:0≤(x5_1:Int):=of_decide_eq_true (by first|(with_reducible assumption)|assumption)
        have q196:x5_1<(l1.length:Int):=of_decide_eq_true (by first|(with_reducible assumption)|assumption)
        obtain ⟨ad196,e196,hx196_0,hx196_1,hx196_2⟩:=at_T52 HR1.out x5_1 p196 q196
        have hw196_2:=hx196_2
        have hw196_1:=hx196_1
        have hw196_0:=hx196_0
        cases e196
        replace hx196_0:=(HB.out.cell (World.block_lt_of_cell? w _ hx196_0)).trans hx196_0
        replace hx196_1:=(HB.out.cell (World.block_lt_of_cell? w _ hx196_1)).trans hx196_1
        replace hx196_2:=(HB.out.cell (World.block_lt_of_cell? w _ hx196_2)).trans hx196_2
        replace p196:=eq_true p196
        replace q196:=eq_true q196
        refine start_ (n:=10) (S:=fun w'=>w'.cell? (ad195.add ((x5_1).toNat * 3))=some (.int .i64 ((rd_T52 l0 x5_1).f0))∧w'.cell? ⟨(ad195.add ((x5_1).toNat * 3)).block,(ad195.add ((x5_1).toNat * 3)).off+1,none⟩=some (.int .i64 ((rd_T52 l0 x5_1).f1))∧w'.cell? ⟨(ad195.add ((x5_1).toNat * 3)).block,(ad195.add ((x5_1).toNat * 3)).off+2,none⟩=some (.int .i64 ((rd_T52 l0 x5_1).f2))∧w'.cell? (ad196.add ((x5_1).toNat * 3))=some (.int .i64 ((rd_T52 l1 x5_1).f0))∧w'.cell? ⟨(ad196.add ((x5_1).toNat * 3)).block,(ad196.add ((x5_1).toNat * 3)).off+1,none⟩=some (.int .i64 ((rd_T52 l1 x5_1).f1))∧w'.cell? ⟨(ad196.add ((x5_1).toNat * 3)).block,(ad196.add ((x5_1).toNat * 3)).off+2,none⟩=some (.int .i64 ((rd_T52 l1 x5_1).f2))) (ds:=[]) #[false,false,false,false,false,false,false,false,false,false] (by kernel_rfl) rfl rfl ⟨((HB.out.cell (World.block_lt_of_cell? w _ hw195_0)).trans hw195_0),((HB.out.cell (World.block_lt_of_cell? w _ hw195_1)).trans hw195_1),((HB.out.cell (World.block_lt_of_cell? w _ hw195_2)).trans hw195_2),((HB.out.cell (World.block_lt_of_cell? w _ hw196_0)).trans hw196_0),((HB.out.cell (World.block_lt_of_cell? w _ hw196_1)).trans hw196_1),((HB.out.cell (World.block_lt_of_cell? w _ hw196_2)).trans hw196_2)⟩ (fun hHeld=>?_);refine with_tabW laws_eqEventS.tab6 laws_eqEventS.bits6 (fun HT_ HW_=>?_)
        generalize wr.drew=w9 at HB hx195_0 hx195_1 hx195_2 hx196_0 hx196_1 hx196_2 hHeld ⊢
        refine pure_ (i:=0) (N:=some 17) (v:=?_) (a':=?_) #[true,false,false,false,false,false,false,false,false,false] rfl rfl (any_of HT_.out (by kernel_rfl)) (fun _ _ _ h=>h) (Or.inl ⟨by rfl,?_⟩) ?_ ?_
        rotate_left
        ·intro w'
         go_simp
         with_reducible rfl
        rotate_left
        ·simp only [Act.put,List.setIfInBounds_toArray,List.set_cons_zero,List.set_cons_succ,i64_w,i32_w]
         rfl
        refine pure_ (i:=1) (N:=some 18) (v:=?_) (a':=?_) #[true,true,false,false,false,false,false,false,false,false] rfl rfl (any_of HT_.out (by kernel_rfl)) (fun _ _ _ h=>h) (Or.inl ⟨by rfl,?_⟩) ?_ ?_
        rotate_left
        ·intro w'
         go_simp
         with_reducible rfl
        rotate_left
        ·simp only [Act.put,List.setIfInBounds_toArray,List.set_cons_zero,List.set_cons_succ,i64_w,i32_w]
         rfl
        refine pure_ (i:=2) (N:=some 19) (v:=?_) (a':=?_) #[true,true,true,false,false,false,false,false,false,false] rfl rfl (any_of HT_.out (by kernel_rfl)) (fun _ _ _ h=>h) (Or.inl ⟨by rfl,?_⟩) ?_ ?_
        rotate_left
        ·intro w'
         go_simp
         with_reducible rfl
        rotate_left
        ·simp only [Act.put,List.setIfInBounds_toArray,List.set_cons_zero,List.set_cons_succ,i64_w,i32_w]
         rfl
        refine pure_ (i:=4) (N:=some 21) (v:=?_) (a':=?_) #[true,true,true,false,true,false,false,false,false,false] rfl rfl (any_of HT_.out (by kernel_rfl)) (fun _ _ _ h=>h) (Or.inl ⟨by rfl,?_⟩) ?_ ?_
        rotate_left
        ·intro w'
         go_simp
         with_reducible rfl
        rotate_left
        ·simp only [Act.put,List.setIfInBounds_toArray,List.set_cons_zero,List.set_cons_succ,i64_w,i32_w]
         rfl
        refine pure_ (i:=5) (N:=some 22) (v:=?_) (a':=?_) #[true,true,true,false,true,true,false,false,false,false] rfl rfl (any_of HT_.out (by kernel_rfl)) (fun _ _ _ h=>h) (Or.inl ⟨by rfl,?_⟩) ?_ ?_
        rotate_left
        ·intro w'
         go_simp
         with_reducible rfl
        rotate_left
        ·simp only [Act.put,List.setIfInBounds_toArray,List.set_cons_zero,List.set_cons_succ,i64_w,i32_w]
         rfl
        refine pure_ (i:=6) (N:=some 23) (v:=?_) (a':=?_) #[true,true,true,false,true,true,true,false,false,false] rfl rfl (any_of HT_.out (by kernel_rfl)) (fun _ _ _ h=>h) (Or.inl ⟨by rfl,?_⟩) ?_ ?_
        rotate_left
        ·intro w'
         go_simp
         with_reducible rfl
        rotate_left
        ·simp only [Act.put,List.setIfInBounds_toArray,List.set_cons_zero,List.set_cons_succ,i64_w,i32_w]
         rfl
        refine take_ (i:=3) (N:=some 20) (v:=?_) (a':=?_) #[true,true,true,true,true,true,true,false,false,false] rfl rfl (take_ofW HT_.out HW_.out (by kernel_rfl)) (fun _ _ _ h=>h) (Or.inl ⟨by rfl,?_⟩) hHeld ?_ ?_
        rotate_left
        ·rintro w' ⟨s0,s1,s2,s3,s4,s5⟩
         go_simp
         with_reducible rfl
        rotate_left
        ·simp only [Act.put,List.setIfInBounds_toArray,List.set_cons_zero,List.set_cons_succ,i64_w,i32_w]
         rfl
        refine take_ (i:=7) (N:=some 24) (v:=?_) (a':=?_) #[true,true,true,true,true,true,true,true,false,false] rfl rfl (take_ofW HT_.out HW_.out (by kernel_rfl)) (fun _ _ _ h=>h) (Or.inl ⟨by rfl,?_⟩) hHeld ?_ ?_
        rotate_left
        ·rintro w' ⟨s0,s1,s2,s3,s4,s5⟩
         go_simp
         with_reducible rfl
        rotate_left
        ·simp only [Act.put,List.setIfInBounds_toArray,List.set_cons_zero,List.set_cons_succ,i64_w,i32_w]
         rfl
        refine one_ (i:=8) (N:=some 25) #[true,true,true,true,true,true,true,true,true,false] rfl rfl (one_of HT_.out (by kernel_rfl)) (by decide) (fun K hK=>?_)
        refine goes_ Tryd.func37 (by kernel_rfl) rfl #[.agg #[.int .i64 ((rd_T52 l0 x5_1).f0),.int .i64 ((rd_T52 l0 x5_1).f1),.int .i64 ((rd_T52 l0 x5_1).f2)],.agg #[.int .i64 ((rd_T52 l1 x5_1).f0),.int .i64 ((rd_T52 l1 x5_1).f1),.int .i64 ((rd_T52 l1 x5_1).f2)]] (by rfl) rfl rfl (by (try simp only [List.map_toArray,List.map_cons,List.map_nil]);first|done|rfl|(simp only [List.length_drop,List.length_take];rfl)) ?_
        with_reducible refine (laws_eqEvent.calls ((rd_T52 l0 x5_1).f0) ((rd_T52 l0 x5_1).f1) ((rd_T52 l0 x5_1).f2) ((rd_T52 l1 x5_1).f0) ((rd_T52 l1 x5_1).f1) ((rd_T52 l1 x5_1).f2) true _ A7.out).mono ?_
        rintro e w10 ⟨rfl,hb⟩
        refine ⟨_,rfl,?_⟩
        have n0_:=Aside0.mk (below_step (by repeat (first|(with_reducible first|exact HB.out|apply below_alloc|apply pw_below_drewN|apply below_drew1)|exact HB.out)) hb)
        clear HB
        have HB:=n0_
        clear n0_
        (try clear hb)
        (try clear hb2)
        (try clear hk)
        (try clear hi)
        refine hK.out _ _ ⟨((HB.out.cell (World.block_lt_of_cell? w _ hw195_0)).trans hw195_0),((HB.out.cell (World.block_lt_of_cell? w _ hw195_1)).trans hw195_1),((HB.out.cell (World.block_lt_of_cell? w _ hw195_2)).trans hw195_2),((HB.out.cell (World.block_lt_of_cell? w _ hw196_0)).trans hw196_0),((HB.out.cell (World.block_lt_of_cell? w _ hw196_1)).trans hw196_1),((HB.out.cell (World.block_lt_of_cell? w _ hw196_2)).trans hw196_2)⟩ (fun hHeld=>?_)
        clear hK K
        refine norm_ (a':=?_) ?_ ?_
        rotate_left
        ·show Act.put _ (some 25) _=_
         simp only [Act.put,List.setIfInBounds_toArray,List.set_cons_zero,List.set_cons_succ,i64_w,i32_w]
         rfl
        refine pure_ (i:=9) (N:=some 26) (v:=?_) (a':=?_) #[true,true,true,true,true,true,true,true,true,true] rfl rfl (any_of HT_.out (by kernel_rfl)) (fun _ _ _ h=>h) (Or.inl ⟨by rfl,?_⟩) ?_ ?_
        rotate_left
        ·intro w'
         go_simp
         with_reducible rfl
        rotate_left
        ·simp only [Act.put,List.setIfInBounds_toArray,List.set_cons_zero,List.set_cons_succ,i64_w,i32_w]
         rfl
        refine done_ (done_of HT_.out (by kernel_rfl)) ?_
        try go_wp2
        go_roundg k1
        case measure=>have:=HK1.out;omega
        case rel=>exact ⟨(wrap64 (x5_1+1)),(by first|rfl|(simp;done)|(simp [*];done)),H',⟨by have:=HK1.out;omega⟩,⟨by repeat (first|(with_reducible first|exact HB.out|apply below_alloc|apply pw_below_drewN|apply below_drew1)|exact HB.out)⟩⟩
       replace c8:=Bool.eq_false_iff.mpr c8
       subst c8
       have H1:(some false)=some r:=by rw [if_neg (show ¬ (false=true) by decide)] at H;exact H
       clear H
       have H:=H1
       clear H1
       obtain rfl:=Option.some.inj H
       try go_wp2
       have n0_:=Aside0.mk (below_drew1 HB.out)
       clear HB
       have HB:=n0_
       clear n0_
       have p195:0≤(x5_1:Int):=of_decide_eq_true (by first|(with_reducible assumption)|assumption)
       have q195:x5_1<(l0.length:Int):=of_decide_eq_true (by first|(with_reducible assumption)|assumption)
       obtain ⟨ad195,e195,hx195_0,hx195_1,hx195_2⟩:=at_T52 HR0.out x5_1 p195 q195
       have hw195_2:=hx195_2
       have hw195_1:=hx195_1
       have hw195_0:=hx195_0
       cases e195
       replace hx195_0:=(HB.out.cell (World.block_lt_of_cell? w _ hx195_0)).trans hx195_0
       replace hx195_1:=(HB.out.cell (World.block_lt_of_cell? w _ hx195_1)).trans hx195_1
       replace hx195_2:=(HB.out.cell (World.block_lt_of_cell? w _ hx195_2)).trans hx195_2
       replace p195:=eq_true p195
       replace q195:=eq_true q195
       have p196:0≤(x5_1:Int):=of_decide_eq_true (by first|(with_reducible assumption)|assumption)
       have q196:x5_1<(l1.length:Int):=of_decide_eq_true (by first|(with_reducible assumption)|assumption)
       obtain ⟨ad196,e196,hx196_0,hx196_1,hx196_2⟩:=at_T52 HR1.out x5_1 p196 q196
       have hw196_2:=hx196_2
       have hw196_1:=hx196_1
       have hw196_0:=hx196_0
       cases e196
       replace hx196_0:=(HB.out.cell (World.block_lt_of_cell? w _ hx196_0)).trans hx196_0
       replace hx196_1:=(HB.out.cell (World.block_lt_of_cell? w _ hx196_1)).trans hx196_1
       replace hx196_2:=(HB.out.cell (World.block_lt_of_cell? w _ hx196_2)).trans hx196_2
       replace p196:=eq_true p196
       replace q196:=eq_true q196
       refine start_ (n:=10) (S:=fun w'=>w'.cell? (ad195.add ((x5_1).toNat * 3))=some (.int .i64 ((rd_T52 l0 x5_1).f0))∧w'.cell? ⟨(ad195.add ((x5_1).toNat * 3)).block,(ad195.add ((x5_1).toNat * 3)).off+1,none⟩=some (.int .i64 ((rd_T52 l0 x5_1).f1))∧w'.cell? ⟨(ad195.add ((x5_1).toNat * 3)).block,(ad195.add ((x5_1).toNat * 3)).off+2,none⟩=some (.int .i64 ((rd_T52 l0 x5_1).f2))∧w'.cell? (ad196.add ((x5_1).toNat * 3))=some (.int .i64 ((rd_T52 l1 x5_1).f0))∧w'.cell? ⟨(ad196.add ((x5_1).toNat * 3)).block,(ad196.add ((x5_1).toNat * 3)).off+1,none⟩=some (.int .i64 ((rd_T52 l1 x5_1).f1))∧w'.cell? ⟨(ad196.add ((x5_1).toNat * 3)).block,(ad196.add ((x5_1).toNat * 3)).off+2,none⟩=some (.int .i64 ((rd_T52 l1 x5_1).f2))) (ds:=[]) #[false,false,false,false,false,false,false,false,false,false] (by kernel_rfl) rfl rfl ⟨((HB.out.cell (World.block_lt_of_cell? w _ hw195_0)).trans hw195_0),((HB.out.cell (World.block_lt_of_cell? w _ hw195_1)).trans hw195_1),((HB.out.cell (World.block_lt_of_cell? w _ hw195_2)).trans hw195_2),((HB.out.cell (World.block_lt_of_cell? w _ hw196_0)).trans hw196_0),((HB.out.cell (World.block_lt_of_cell? w _ hw196_1)).trans hw196_1),((HB.out.cell (World.block_lt_of_cell? w _ hw196_2)).trans hw196_2)⟩ (fun hHeld=>?_);refine with_tabW laws_eqEventS.tab6 laws_eqEventS.bits6 (fun HT_ HW_=>?_)
       generalize wr.drew=w11 at HB hx195_0 hx195_1 hx195_2 hx196_0 hx196_1 hx196_2 hHeld ⊢
       refine pure_ (i:=0) (N:=some 17) (v:=?_) (a':=?_) #[true,false,false,false,false,false,false,false,false,false] rfl rfl (any_of HT_.out (by kernel_rfl)) (fun _ _ _ h=>h) (Or.inl ⟨by rfl,?_⟩) ?_ ?_
       rotate_left
       ·intro w'
        go_simp
        with_reducible rfl
       rotate_left
       ·simp only [Act.put,List.setIfInBounds_toArray,List.set_cons_zero,List.set_cons_succ,i64_w,i32_w]
        rfl
       refine pure_ (i:=1) (N:=some 18) (v:=?_) (a':=?_) #[true,true,false,false,false,false,false,false,false,false] rfl rfl (any_of HT_.out (by kernel_rfl)) (fun _ _ _ h=>h) (Or.inl ⟨by rfl,?_⟩) ?_ ?_
       rotate_left
       ·intro w'
        go_simp
        with_reducible rfl
       rotate_left
       ·simp only [Act.put,List.setIfInBounds_toArray,List.set_cons_zero,List.set_cons_succ,i64_w,i32_w]
        rfl
       refine pure_ (i:=2) (N:=some 19) (v:=?_) (a':=?_) #[true,true,true,false,false,false,false,false,false,false] rfl rfl (any_of HT_.out (by kernel_rfl)) (fun _ _ _ h=>h) (Or.inl ⟨by rfl,?_⟩) ?_ ?_
       rotate_left
       ·intro w'
        go_simp
        with_reducible rfl
       rotate_left
       ·simp only [Act.put,List.setIfInBounds_toArray,List.set_cons_zero,List.set_cons_succ,i64_w,i32_w]
        rfl
       refine pure_ (i:=4) (N:=some 21) (v:=?_) (a':=?_) #[true,true,true,false,true,false,false,false,false,false] rfl rfl (any_of HT_.out (by kernel_rfl)) (fun _ _ _ h=>h) (Or.inl ⟨by rfl,?_⟩) ?_ ?_
       rotate_left
       ·intro w'
        go_simp
        with_reducible rfl
       rotate_left
       ·simp only [Act.put,List.setIfInBounds_toArray,List.set_cons_zero,List.set_cons_succ,i64_w,i32_w]
        rfl
       refine pure_ (i:=5) (N:=some 22) (v:=?_) (a':=?_) #[true,true,true,false,true,true,false,false,false,false] rfl rfl (any_of HT_.out (by kernel_rfl)) (fun _ _ _ h=>h) (Or.inl ⟨by rfl,?_⟩) ?_ ?_
       rotate_left
       ·intro w'
        go_simp
        with_reducible rfl
       rotate_left
       ·simp only [Act.put,List.setIfInBounds_toArray,List.set_cons_zero,List.set_cons_succ,i64_w,i32_w]
        rfl
       refine pure_ (i:=6) (N:=some 23) (v:=?_) (a':=?_) #[true,true,true,false,true,true,true,false,false,false] rfl rfl (any_of HT_.out (by kernel_rfl)) (fun _ _ _ h=>h) (Or.inl ⟨by rfl,?_⟩) ?_ ?_
       rotate_left
       ·intro w'
        go_simp
        with_reducible rfl
       rotate_left
       ·simp only [Act.put,List.setIfInBounds_toArray,List.set_cons_zero,List.set_cons_succ,i64_w,i32_w]
        rfl
       refine take_ (i:=3) (N:=some 20) (v:=?_) (a':=?_) #[true,true,true,true,true,true,true,false,false,false] rfl rfl (take_ofW HT_.out HW_.out (by kernel_rfl)) (fun _ _ _ h=>h) (Or.inl ⟨by rfl,?_⟩) hHeld ?_ ?_
       rotate_left
       ·rintro w' ⟨s0,s1,s2,s3,s4,s5⟩
        go_simp
        with_reducible rfl
       rotate_left
       ·simp only [Act.put,List.setIfInBounds_toArray,List.set_cons_zero,List.set_cons_succ,i64_w,i32_w]
        rfl
       refine take_ (i:=7) (N:=some 24) (v:=?_) (a':=?_) #[true,true,true,true,true,true,true,true,false,false] rfl rfl (take_ofW HT_.out HW_.out (by kernel_rfl)) (fun _ _ _ h=>h) (Or.inl ⟨by rfl,?_⟩) hHeld ?_ ?_
       rotate_left
       ·rintro w' ⟨s0,s1,s2,s3,s4,s5⟩
        go_simp
        with_reducible rfl
       rotate_left
       ·simp only [Act.put,List.setIfInBounds_toArray,List.set_cons_zero,List.set_cons_succ,i64_w,i32_w]
        rfl
       refine one_ (i:=8) (N:=some 25) #[true,true,true,true,true,true,true,true,true,false] rfl rfl (one_of HT_.out (by kernel_rfl)) (by decide) (fun K hK=>?_)
       refine goes_ Tryd.func37 (by kernel_rfl) rfl #[.agg #[.int .i64 ((rd_T52 l0 x5_1).f0),.int .i64 ((rd_T52 l0 x5_1).f1),.int .i64 ((rd_T52 l0 x5_1).f2)],.agg #[.int .i64 ((rd_T52 l1 x5_1).f0),.int .i64 ((rd_T52 l1 x5_1).f1),.int .i64 ((rd_T52 l1 x5_1).f2)]] (by rfl) rfl rfl (by (try simp only [List.map_toArray,List.map_cons,List.map_nil]);first|done|rfl|(simp only [List.length_drop,List.length_take];rfl)) ?_
       with_reducible refine (laws_eqEvent.calls ((rd_T52 l0 x5_1).f0) ((rd_T52 l0 x5_1).f1) ((rd_T52 l0 x5_1).f2) ((rd_T52 l1 x5_1).f0) ((rd_T52 l1 x5_1).f1) ((rd_T52 l1 x5_1).f2) false _ A7.out).mono ?_
       rintro e w12 ⟨rfl,hb⟩
       refine ⟨_,rfl,?_⟩
       have n0_:=Aside0.mk (below_step (by repeat (first|(with_reducible first|exact HB.out|apply below_alloc|apply pw_below_drewN|apply below_drew1)|exact HB.out)) hb)
       clear HB
       have HB:=n0_
       clear n0_
       (try clear hb)
       (try clear hb2)
       (try clear hk)
       (try clear hi)
       refine hK.out _ _ ⟨((HB.out.cell (World.block_lt_of_cell? w _ hw195_0)).trans hw195_0),((HB.out.cell (World.block_lt_of_cell? w _ hw195_1)).trans hw195_1),((HB.out.cell (World.block_lt_of_cell? w _ hw195_2)).trans hw195_2),((HB.out.cell (World.block_lt_of_cell? w _ hw196_0)).trans hw196_0),((HB.out.cell (World.block_lt_of_cell? w _ hw196_1)).trans hw196_1),((HB.out.cell (World.block_lt_of_cell? w _ hw196_2)).trans hw196_2)⟩ (fun hHeld=>?_)
       clear hK K
       refine norm_ (a':=?_) ?_ ?_
       rotate_left
       ·show Act.put _ (some 25) _=_
        simp only [Act.put,List.setIfInBounds_toArray,List.set_cons_zero,List.set_cons_succ,i64_w,i32_w]
        rfl
       refine pure_ (i:=9) (N:=some 26) (v:=?_) (a':=?_) #[true,true,true,true,true,true,true,true,true,true] rfl rfl (any_of HT_.out (by kernel_rfl)) (fun _ _ _ h=>h) (Or.inl ⟨by rfl,?_⟩) ?_ ?_
       rotate_left
       ·intro w'
        go_simp
        with_reducible rfl
       rotate_left
       ·simp only [Act.put,List.setIfInBounds_toArray,List.set_cons_zero,List.set_cons_succ,i64_w,i32_w]
        rfl
       refine done_ (done_of HT_.out (by kernel_rfl)) ?_
       try go_wp2
       go_ret
       exact ⟨by first|rfl|(simp [errW_none,errW_some] <;> rfl)|(simp [*,errW_none,errW_some] <;> rfl),by repeat (first|(with_reducible first|exact HB.out|apply below_alloc|apply pw_below_drewN|apply below_drew1)|exact HB.out)⟩
      rw [if_neg c6] at H
      exact absurd H (by simp)
     rw [if_neg c5] at H
     exact absurd H (by simp)
    rw [if_neg c4] at H
    have c4b0:decide (x5_1<(l0.length:Int))=false:=decide_eq_false c4
    clear c4
    obtain rfl:=Option.some.inj H
    go_wp2
    go_ret
    exact ⟨by first|rfl|(simp [errW_none,errW_some] <;> rfl)|(simp [*,errW_none,errW_some] <;> rfl),by repeat (first|(with_reducible first|exact HB.out|apply below_alloc|apply pw_below_drewN|apply below_drew1)|exact HB.out)⟩
 rw [if_neg c3] at H
 have c3b0:((l0.length:Int)==(l1.length:Int))=false:=beq_eq_false_iff_ne.mpr c3
 have c3b1:((l0.length:Int) != (l1.length:Int))=true:=bne_iff_ne.mpr c3
 have c3b2:(l0.length==l1.length)=false:=by first|simpa using c3|(simp at c3 ⊢;omega)
 obtain rfl:=Option.some.inj H
 go_enter Tryd.func14,Tryd.ntmps14
 go_wp2
 go_ret
 exact ⟨by first|rfl|(simp [errW_none,errW_some] <;> rfl)|(simp [*,errW_none,errW_some] <;> rfl),by repeat (first|(with_reducible first|exact HB.out|apply below_alloc|apply pw_below_drewN|apply below_drew1)|exact HB.out)⟩
end Go.Proofs.YtpdnabhpkdchjaaDoor.P
namespace Go.Proofs.YtpdnabhpkdchjaaDoor.P
open Go.RowKit Go.Proofs.YtpdnabhpkdchjaaDoorW.PrintWords Go.Proofs.YtpdnabhpkdchjaaDoorW.PrintLast
set_option linter.unusedVariables false
set_option linter.unusedSimpArgs false
theorem szEventS_eq (l : List S57) (left : Int) (h0 : 0 ≤ left) (h1 : left ≤ 1048576) (hl : l.length ≤ 9223372036854775807) :
    laws_szEventS.f l left = some (if left < (l.length : Int) then -1 else left - l.length) := by
  unfold laws_szEventS.f
  rw [wrap_id (by omega) (by omega)]
  by_cases h : left < (l.length : Int)
  · rw [if_pos (by omega), if_pos h]
  · rw [if_neg (by omega), if_neg h]
def cvE (x : S57) : S52 := ⟨x.f0, x.f1, x.f2⟩
theorem rd54 (l : List S57) (i : Nat) (h : i < l.length) : rd_T57 l (i : Int) = l[i] := by simp [rd_T57, h]
theorem toEventS_l0 (l : List S57) (hl : l.length ≤ 1048576) (d : Nat) : ∀ (i : Nat), i + d = l.length → Ev (fun k => laws_toEventS.l0 k l ((l.take i).map cvE ++ List.replicate d z52) i) (l.map cvE) := by
  induction d with
  | zero =>
    intro i hi
    refine Ev.step1 fun k => ?_
    simp only [laws_toEventS.l0]
    rw [if_neg (by omega), List.take_of_length_le (by omega)]
    simp
  | succ d ih =>
    intro i hi
    have hlt : i < l.length := by omega
    refine Ev.step (fun k => ?_) (ih (i + 1) (by omega))
    simp only [laws_toEventS.l0, laws_toEvent.f]
    rw [if_pos (by omega), if_pos (by omega)]
    simp only [Option.bind_some]
    rw [if_pos (by simp; omega), wrap_succ (by omega), rd54 l i hlt]
    congr 1
    rw [Int.toNat_natCast, List.set_append_right _ _ (by simp; omega)]
    simp only [List.map_take, List.length_take, List.length_map, Nat.min_eq_left (Nat.le_of_lt hlt), Nat.sub_self, List.replicate_succ, List.set_cons_zero]
    rw [List.take_succ_eq_append_getElem (by simpa using hlt)]
    simp [cvE]
theorem toEventS_ev (l : List S57) (hl : l.length ≤ 1048576) : Ev (fun k => laws_toEventS.f k l) (l.map cvE) := by
  unfold laws_toEventS.f
  refine Ev.ite_pos (by omega) (Ev.ite_pos (by omega) ?_)
  simpa using toEventS_l0 l hl l.length 0 (by omega)
theorem eqEventS_l0 (l : List S52) (hl : l.length ≤ 1048576) (d : Nat) : ∀ (i : Nat), i + d = l.length → Ev (fun k => laws_eqEventS.l0 k l l i) true := by
  induction d with
  | zero => intro i hi; refine Ev.step1 fun k => ?_; simp only [laws_eqEventS.l0]; rw [if_neg (by omega)]
  | succ d ih =>
    intro i hi
    refine Ev.step (fun k => ?_) (ih (i + 1) (by omega))
    simp only [laws_eqEventS.l0, laws_eqEvent.f, if_true, Option.bind_some]
    rw [if_pos (by omega), if_pos (by omega), if_pos (by omega), wrap_succ (by omega)]
theorem eqEventS_ev (l : List S52) (hl : l.length ≤ 1048576) : Ev (fun k => laws_eqEventS.f k l l) true := by
  unfold laws_eqEventS.f
  exact Ev.ite_pos rfl (eqEventS_l0 l hl l.length 0 (by omega))
end Go.Proofs.YtpdnabhpkdchjaaDoor.P
namespace Go.Proofs.YtpdnabhpkdchjaaDoor.P
open Go.RowKit Go.Proofs.YtpdnabhpkdchjaaDoorW.PrintWords Go.Proofs.YtpdnabhpkdchjaaDoorW.PrintLast Go.Proofs.YtpdnabhpkdchjaaDoorW.PrintMore
set_option linter.unusedVariables false
section
variable {n : Int} {A : Option Addr} {c : Nat} {l : List S98} {w : World}
theorem lay_is (hr : Kd.C k98 w A l.length l) (hc : l.length ≤ c) : Calls Tryd.prog 30 #[.agg #[.int .i64 n, .slice A l.length c]] w fun e w' => e = .returned (.int .i64 (layoutOk n l)) ∧ Below w.heap.size w w' :=
  impl_LayoutOk.calls n A c l _ w hr hc rfl
theorem ev_is (op of dir : Int) (hr : Kd.C k98 w A l.length l) (hc : l.length ≤ c) : Calls Tryd.prog 31 #[.agg #[.int .i64 n, .slice A l.length c], .agg #[.int .i64 op, .int .i64 of, .int .i64 dir]] w fun e w' => e = .returned (.bool (eventOk n l op of dir)) ∧ Below w.heap.size w w' := by
  obtain ⟨k, h⟩ := (implEventOk_ev n l op of dir).rounds
  exact impl_EventOk.calls k n A c l op of dir _ w hr hc h
theorem ev_at {b : Bool} (op of dir : Int) (hb : eventOk n l op of dir = b) (hr : Kd.C k98 w A l.length l) (hc : l.length ≤ c) : Calls Tryd.prog 31 #[.agg #[.int .i64 n, .slice A l.length c], .agg #[.int .i64 op, .int .i64 of, .int .i64 dir]] w fun e w' => e = .returned (.bool b) ∧ Below w.heap.size w w' := hb ▸ ev_is op of dir hr hc
theorem lay_at {k : Int} (hk : layoutOk n l = k) (hr : Kd.C k98 w A l.length l) (hc : l.length ≤ c) : Calls Tryd.prog 30 #[.agg #[.int .i64 n, .slice A l.length c]] w fun e w' => e = .returned (.int .i64 k) ∧ Below w.heap.size w w' := hk ▸ lay_is hr hc
end
end Go.Proofs.YtpdnabhpkdchjaaDoor.P
namespace Go.Proofs.YtpdnabhpkdchjaaDoor.P
open Go Go.RowKit Go.Proofs.YtpdnabhpkdchjaaDoorW.PrintWords Go.Proofs.YtpdnabhpkdchjaaDoorW.PrintLast Go.Proofs.YtpdnabhpkdchjaaDoorW.PrintMore
set_option linter.unusedVariables false
set_option linter.unusedSimpArgs false
theorem builder_nx {B b : Nat} {bs : List Value} {w w' : World} (h : Lib.IsBuilder 61 5 B b bs w) (hb : Below w.heap.size w w') : Lib.IsBuilder 61 5 B b bs w' := by
  rcases h with ⟨h0, v, h1, h2, h3⟩ | ⟨h0, v, h1, h2, h3⟩
  · exact .inl ⟨h0, v, blk_below h1 hb, pw_own_below h2 hb, h3⟩
  · exact .inr ⟨h0, v, blk_below h1 hb, pw_own_below h2 hb, h3⟩
theorem below_stepB {B : Nat} {w W w2 : World} (h : Below B w W) (k : Below B W w2) : Below B w w2 :=
  ⟨k.os.trans h.os, k.tape.trans h.tape, k.output.trans h.output, Nat.le_trans h.size k.size, fun i hi => (k.block i hi).trans (h.block i hi)⟩
theorem write_none {n : Int} {l : List S98} {es : List S52} (h : ¬ (layoutOk n l = 0 ∧ es.length ≤ 2000 ∧ evsOk n l es = true ∧ (textB es).length ≤ 20000)) : (⟨(writeE n l es).toArray⟩ : ByteArray) = ⟨#[]⟩ := by
  rw [writeE, if_neg h]
theorem write_all {n : Int} {l : List S98} {es : List S52} (h : layoutOk n l = 0 ∧ es.length ≤ 2000 ∧ evsOk n l es = true ∧ (textB es).length ≤ 20000) : writeE n l es = textB es := by
  rw [writeE, if_pos h]
theorem fill3e {w w' : World} {g t : Nat} {x0 x1 x2 y0 y1 y2 : Value} (hx : w'.heap[g]? = some (.cells #[x0, x1, x2] t (0, 0))) (hb : Below w.heap.size w w') (hg : w.heap.size ≤ g) :
    Below w.heap.size w (((w'.setCell ⟨g, 0, none⟩ y0).setCell ⟨g, 1, none⟩ y1).setCell ⟨g, 2, none⟩ y2) ∧ (((w'.setCell ⟨g, 0, none⟩ y0).setCell ⟨g, 1, none⟩ y1).setCell ⟨g, 2, none⟩ y2).heap[g]? = some (.cells #[y0, y1, y2] t (0, 0)) :=
  ⟨below_set (j := 2) (v := y2) (below_set (j := 1) (v := y1) (below_set (j := 0) (v := y0) hb hg) hg) hg, blk_put (blk_put (blk_put hx 0 y0 rfl) 1 y1 rfl) 2 y2 rfl⟩
set_option maxHeartbeats 8000000 in
set_option maxRecDepth 100000 in
theorem iwrite_is {T : Addr} {tc : Nat} (n : Int) (A : Option Addr) (c : Nat) (l : List S98) (A1 : Option Addr) (c1 : Nat) (es : List S52) (w : World) (hr : Kd.C k98 w A l.length l) (hc : l.length ≤ c) (hr1 : Kd.C k52 w A1 es.length es) (hc1 : es.length ≤ c1) (hT : Tabs T tc w) :
    Calls Tryd.prog 12 #[.agg #[.int .i64 n, .slice A l.length c], .slice A1 es.length c1] w fun e w' => e = .returned (.string ⟨(writeE n l es).toArray⟩) ∧ Below w.heap.size w w' := by
  have HR := Aside0.mk hr
  have HR1 := Aside0.mk hr1
  have HC := Aside0.mk hc
  have HT := Aside0.mk hT
  clear hr hr1 hc hT
  by_cases hl : layoutOk n l = 0
  · by_cases he : es.length ≤ 2000
    · have he1 : decide (2000 < (es.length : Int)) = false := decide_eq_false (by omega)
      have HL := Aside0.mk hl
      have HE := Aside0.mk he
      clear hc1
      go_enter Tryd.func12, Tryd.ntmps12
      go_upto_region 1 with ((with_reducible refine gate_dst (N := 2) rfl ?_); refine box_event ?hg (N := 2) ?hd (cs := #[.int .i64 n, .slice A l.length c]) (t := 31) ?hr ?_; (case hd => rfl); (case hg => rfl); (case hr => first | (go_simp; done) | (go_simp; rfl)); intro gl el wl kl bl; have EL := Aside0.mk el; have KL := Aside0.mk kl; have BL := Aside0.mk bl; clear el kl bl; have kl0 : wl.cell? ⟨gl, 0, none⟩ = some (.int .i64 n) := (blk_cell KL.out 0).trans rfl; have zkl0 := blk_frozen KL.out 0; have kl1 : wl.cell? ⟨gl, 1, none⟩ = some (.slice A l.length c) := (blk_cell KL.out 1).trans rfl; have zkl1 := blk_frozen KL.out 1)
      go_upto_region 3 with (go_at_call 30; refine (lay_at HL.out (Kd.C_below HR.out BL.out) HC.out).mono ?_; rintro e w1 ⟨rfl, hb⟩; have KL := Aside0.mk (blk_below KL.out hb); have B1 := Aside0.mk (below_step BL.out hb); clear hb)
      clear kl0 zkl0 kl1 zkl1 he1
      have HT := Aside0.mk (HT.out.nx B1.out)
      have HR := Aside0.mk (Kd.C_below HR.out B1.out)
      have HR1 := Aside0.mk (Kd.C_below HR1.out B1.out)
      go_upto_region 4 with ((with_reducible refine gate_dst (N := 5) rfl ?_); refine box_event ?hg (N := 5) ?hd (cs := #[.pointer none, .slice none 0 0]) (t := 61) ?hr ?_; (case hd => rfl); (case hg => rfl); (case hr => first | (go_simp; done) | (go_simp; rfl)); intro gb eb w2 kb bb; have HB := Aside0.mk bb; have HI := Aside0.mk (show Lib.IsBuilder 61 5 w1.heap.size gb (Lib.byteCells (textB (es.take 0))) w2 from .inl ⟨by rw [eb]; exact Nat.le_refl _, _, kb, World.ownsRow_nil _ _ _ _, by simp [Value.ownBlock]⟩); clear eb kb bb)
      go_wp2_with fail
      clear hl
      go_loopg [18] es.length (fun kq v18 w' => ∃ i : Nat, v18 = .int .i64 (i : Int) ∧ Aside0 (i + kq = es.length) ∧ Aside0 (evsOk n l (es.take i) = true) ∧ Aside0 (Lib.IsBuilder 61 5 w1.heap.size gb (Lib.byteCells (textB (es.take i))) w') ∧ Aside0 (Below w1.heap.size w1 w'))
      case atStart => exact ⟨0, rfl, ⟨by omega⟩, ⟨by simp [evsOk]⟩, HI, HB⟩
      case round =>
        clear HI HB
        obtain ⟨i, rfl, HX, HO, HI, HB⟩ := hrel
        by_cases hit : i < es.length
        · obtain ⟨go1, rfl⟩ : ∃ g, gk = g + 1 := ⟨gk - 1, by have := HX.out; omega⟩
          have hit' : decide ((i : Int) < (es.length : Int)) = true := decide_eq_true (by omega)
          have r0 : (0 : Int) ≤ (i : Int) := by omega
          have r1 : (i : Int) < (es.length : Int) := by omega
          obtain ⟨ad, e, x0, x1, x2⟩ := at_T52 HR1.out (i : Int) r0 r1
          subst e
          rw [Int.toNat_natCast] at x0 x1 x2
          have EQ := Aside0.mk (rd52 es i hit)
          have HIT := Aside0.mk hit
          rw [rd52 es i hit] at x0 x1 x2
          obtain ⟨ev, hev⟩ : ∃ ev, ev = es[i] := ⟨_, rfl⟩
          have SN := Aside0.mk (textB_snoc es i hit)
          have TK := Aside0.mk (evsOk_take (n := n) (l := l) i hit)
          rw [← hev] at x0 x1 x2 SN TK
          have W3 := Aside0.mk (show wrap64 ((i : Int) + 1) = ((i + 1 : Nat) : Int) from (wrap_id (by omega) (by have := HE.out; omega)).trans (by omega))
          have NX := Aside0.mk (show i + 1 + go1 = es.length by have := HX.out; omega)
          have EV := Aside0.mk hev
          replace x0 := pw_cell_below HB.out x0
          replace x1 := pw_cell_below HB.out x1
          replace x2 := pw_cell_below HB.out x2
          clear hev
          go_upto_region 7 with ((with_reducible refine gate_dst (N := 7) rfl ?_); refine box_event ?hg (N := 7) ?hd (cs := #[.int .i64 0, .int .i64 0, .int .i64 0]) (t := 52) ?hr ?_; (case hd => rfl); (case hg => rfl); (case hr => first | (go_simp; done) | (go_simp; rfl)); intro ge ee we ke be; have EE := Aside0.mk ee; have KE := Aside0.mk ke; have BE := Aside0.mk be; clear ee ke be; have ke0 : we.cell? ⟨ge, 0, none⟩ = some (.int .i64 0) := (blk_cell KE.out 0).trans rfl; have zke0 := blk_frozen KE.out 0; have ke1 : we.cell? ⟨ge, 1, none⟩ = some (.int .i64 0) := (blk_cell KE.out 1).trans rfl; have zke1 := blk_frozen KE.out 1; have ke2 : we.cell? ⟨ge, 2, none⟩ = some (.int .i64 0) := (blk_cell KE.out 2).trans rfl; have zke2 := blk_frozen KE.out 2)
          have FX := Aside0.mk (fill3e (y0 := .int .i64 ev.f0) (y1 := .int .i64 ev.f1) (y2 := .int .i64 ev.f2) KE.out BE.out (Nat.le_of_eq EE.out.symm))
          clear ke0 zke0 ke1 zke1 ke2 zke2 KE BE EE x0 x1 x2
          generalize (((we.setCell ⟨ge, 0, none⟩ (.int .i64 ev.f0)).setCell ⟨ge, 1, none⟩ (.int .i64 ev.f1)).setCell ⟨ge, 2, none⟩ (.int .i64 ev.f2)) = w4 at FX ⊢
          have HI := Aside0.mk (builder_nx HI.out FX.out.1)
          have HB := Aside0.mk (below_step HB.out FX.out.1)
          have KE := Aside0.mk FX.out.2
          have KL := Aside0.mk (blk_below KL.out HB.out)
          clear FX
          have kl0 : w4.cell? ⟨gl, 0, none⟩ = some (.int .i64 n) := (blk_cell KL.out 0).trans rfl; have kl1 : w4.cell? ⟨gl, 1, none⟩ = some (.slice A l.length c) := (blk_cell KL.out 1).trans rfl
          have ke0 : w4.cell? ⟨ge, 0, none⟩ = some (.int .i64 ev.f0) := (blk_cell KE.out 0).trans rfl
          have ke1 : w4.cell? ⟨ge, 1, none⟩ = some (.int .i64 ev.f1) := (blk_cell KE.out 1).trans rfl
          have ke2 : w4.cell? ⟨ge, 2, none⟩ = some (.int .i64 ev.f2) := (blk_cell KE.out 2).trans rfl
          by_cases hok : eventOk n l ev.f0 ev.f1 ev.f2 = true
          · go_upto_region 9 with (go_at_call 31; refine (ev_at _ _ _ hok (Kd.C_below HR.out HB.out) HC.out).mono ?_; rintro e w5 ⟨rfl, hb⟩; have HI := Aside0.mk (builder_nx HI.out hb); have HB := Aside0.mk (below_step HB.out hb); have KE := Aside0.mk (blk_below KE.out hb); clear hb)
            have hp := Aside0.mk (ev_parts hok)
            have TK2 := Aside0.mk (show evsOk n l (es.take (i + 1)) = true by rw [TK.out, HO.out, hok]; rfl)
            clear kl0 kl1 ke0 ke1 ke2 hok
            have ke0 : w5.cell? ⟨ge, 0, none⟩ = some (.int .i64 ev.f0) := (blk_cell KE.out 0).trans rfl
            have ke1 : w5.cell? ⟨ge, 1, none⟩ = some (.int .i64 ev.f1) := (blk_cell KE.out 1).trans rfl
            have ke2 : w5.cell? ⟨ge, 2, none⟩ = some (.int .i64 ev.f2) := (blk_cell KE.out 2).trans rfl
            go_upto_region 10 with (first | (go_at_call 33; refine (line_is (by have := hp.out; omega) (by have := hp.out; omega) (by have := hp.out; omega) (by have := hp.out; omega) (HT.out.nx HB.out)).mono ?_; rintro e w6 ⟨rfl, hb⟩; have HI := Aside0.mk (builder_nx HI.out hb); have HB := Aside0.mk (below_step HB.out hb); clear hb ke0 ke1 ke2) | (go_at_call 32; refine (Tryd.Builder_WriteString _ _ _ _ _ HI.out (by have h1 := textB_len HO.out; have h2 := digits_len ev.f1.toNat; have h3 := evB_len (n := n) (l := l) (e := ev) (by have := TK2.out; rw [TK.out, HO.out] at this; exact this); have h4 := HE.out; have h5 : (es.take i).length ≤ es.length := List.length_take_le' i es; rw [Lib.byteCells_length]; show (textB (es.take i)).length + (evB ev).length ≤ _; omega) HB.out.size).mono ?_; rintro e w7 ⟨rfl, hba, hb⟩; have HI := Aside0.mk (show Lib.IsBuilder 61 5 w1.heap.size gb (Lib.byteCells (textB (es.take (i + 1)))) w7 from by rw [SN.out]; have := hba; rw [Lib.strCells_toArray] at this; unfold Lib.byteCells at this ⊢; rw [List.map_append]; exact .inr this); have HB := Aside0.mk (below_stepB HB.out hb); clear hba hb))
            go_wp2_with fail
            go_roundg go1
            case measure => omega
            case rel => exact ⟨i + 1, by first | rfl | exact congrArg (Value.int .i64) W3.out, NX, TK2, HI, HB⟩
          · have hok' : eventOk n l ev.f0 ev.f1 ev.f2 = false := by simpa using hok
            have HW := Aside0.mk (write_none (n := n) (l := l) (es := es) (fun h => by
              have h1 := h.2.2.1
              rw [evsOk, List.all_eq_true] at h1
              have h2 := h1 _ (List.getElem_mem HIT.out)
              rw [← EV.out, hok'] at h2
              cases h2))
            go_wp2_with (go_at_call 31; refine (ev_at _ _ _ hok' (Kd.C_below HR.out HB.out) HC.out).mono ?_; rintro e w5 ⟨rfl, hb⟩; have HB := Aside0.mk (below_step HB.out hb); clear hb)
            go_ret
            exact ⟨by rw [HW.out]; rfl, below_step B1.out HB.out⟩
        · have hit' : decide ((i : Int) < (es.length : Int)) = false := decide_eq_false (by omega)
          have hi : i = es.length := by have := HX.out; omega
          have HO2 := Aside0.mk (show evsOk n l es = true by have := HO.out; rw [hi, List.take_length] at this; exact this)
          have HI2 := Aside0.mk (show Lib.IsBuilder 61 5 w1.heap.size gb (Lib.byteCells (textB es)) wr by have := HI.out; rw [hi, List.take_length] at this; exact this)
          have LN := Aside0.mk (show (Lib.byteCells (textB es)).length = (textB es).length from Lib.byteCells_length _)
          clear hi
          by_cases hbig : (textB es).length ≤ 20000
          · have hb1 : decide (20000 < ((textB es).length : Int)) = false := decide_eq_false (by omega)
            have HW := Aside0.mk (write_all (n := n) (l := l) (es := es) ⟨HL.out, HE.out, HO2.out, hbig⟩)
            have HBG := Aside0.mk hbig
            go_wp2_with (first | (go_at_call 34; refine (Tryd.Builder_Len _ _ _ _ HI2.out).mono ?_; rintro e w8 ⟨rfl, rfl⟩; rw [LN.out]) | (go_at_call 35; refine (Tryd.Builder_String_any _ _ _ _ HI2.out HB.out.size).mono ?_; rintro e w9 ⟨rfl, hb⟩; have HB := Aside0.mk (below_stepB HB.out hb); clear hb))
            go_ret
            exact ⟨by rw [HW.out]; rfl, below_step B1.out HB.out⟩
          · have hb1 : decide (20000 < ((textB es).length : Int)) = true := decide_eq_true (by omega)
            have HW := Aside0.mk (write_none (n := n) (l := l) (es := es) (fun h => hbig h.2.2.2))
            go_wp2_with (go_at_call 34; refine (Tryd.Builder_Len _ _ _ _ HI2.out).mono ?_; rintro e w8 ⟨rfl, rfl⟩; rw [LN.out])
            go_ret
            exact ⟨by rw [HW.out]; rfl, below_step B1.out HB.out⟩
    · have he1 : decide (2000 < (es.length : Int)) = true := decide_eq_true (by omega)
      have HL := Aside0.mk hl
      have HW := Aside0.mk (write_none (n := n) (l := l) (es := es) (fun h => he h.2.1))
      clear hl he
      go_enter Tryd.func12, Tryd.ntmps12
      go_upto_region 1 with ((with_reducible refine gate_dst (N := 2) rfl ?_); refine box_event ?hg (N := 2) ?hd (cs := #[.int .i64 n, .slice A l.length c]) (t := 31) ?hr ?_; (case hd => rfl); (case hg => rfl); (case hr => first | (go_simp; done) | (go_simp; rfl)); intro gl el wl kl bl; have EL := Aside0.mk el; have KL := Aside0.mk kl; have BL := Aside0.mk bl; clear el kl bl; have kl0 : wl.cell? ⟨gl, 0, none⟩ = some (.int .i64 n) := (blk_cell KL.out 0).trans rfl; have zkl0 := blk_frozen KL.out 0; have kl1 : wl.cell? ⟨gl, 1, none⟩ = some (.slice A l.length c) := (blk_cell KL.out 1).trans rfl; have zkl1 := blk_frozen KL.out 1)
      go_wp2_with (go_at_call 30; refine (lay_at HL.out (Kd.C_below HR.out BL.out) HC.out).mono ?_; rintro e w1 ⟨rfl, hb⟩; have B1 := Aside0.mk (below_step BL.out hb); clear hb)
      go_ret
      exact ⟨by rw [HW.out]; rfl, B1.out⟩
  · have HW := Aside0.mk (write_none (n := n) (l := l) (es := es) (fun h => hl h.1))
    obtain ⟨q, hq⟩ : ∃ q, layoutOk n l = q := ⟨_, rfl⟩
    have HQ := Aside0.mk hq
    rw [hq] at hl
    have hl1 : (q != 0) = true := by simp [hl]
    go_enter Tryd.func12, Tryd.ntmps12
    go_upto_region 1 with ((with_reducible refine gate_dst (N := 2) rfl ?_); refine box_event ?hg (N := 2) ?hd (cs := #[.int .i64 n, .slice A l.length c]) (t := 31) ?hr ?_; (case hd => rfl); (case hg => rfl); (case hr => first | (go_simp; done) | (go_simp; rfl)); intro gl el wl kl bl; have EL := Aside0.mk el; have KL := Aside0.mk kl; have BL := Aside0.mk bl; clear el kl bl; have kl0 : wl.cell? ⟨gl, 0, none⟩ = some (.int .i64 n) := (blk_cell KL.out 0).trans rfl; have zkl0 := blk_frozen KL.out 0; have kl1 : wl.cell? ⟨gl, 1, none⟩ = some (.slice A l.length c) := (blk_cell KL.out 1).trans rfl; have zkl1 := blk_frozen KL.out 1)
    go_wp2_with (go_at_call 30; refine (lay_at HQ.out (Kd.C_below HR.out BL.out) HC.out).mono ?_; rintro e w1 ⟨rfl, hb⟩; have B1 := Aside0.mk (below_step BL.out hb); clear hb)
    go_ret
    exact ⟨by rw [HW.out]; rfl, B1.out⟩
def impl_WriteEvents.f (n : Int) (l : List S98) (es : List S52) : Option ByteArray := some ⟨(writeE n l es).toArray⟩
theorem impl_WriteEvents.calls {T : Addr} {tc : Nat} (n : Int) (A : Option Addr) (c : Nat) (l : List S98) (A1 : Option Addr) (c1 : Nat) (es : List S52) (r : ByteArray) (w : World) (hr : Kd.C k98 w A l.length l) (hc : l.length ≤ c) (hr1 : Kd.C k52 w A1 es.length es) (hc1 : es.length ≤ c1) (h : impl_WriteEvents.f n l es = some r) (hT : Tabs T tc w) :
    Calls Tryd.prog 12 #[.agg #[.int .i64 n, .slice A l.length c], .slice A1 es.length c1] w fun e w' => e = .returned (.string r) ∧ Below w.heap.size w w' :=
  Option.some.inj h ▸ iwrite_is n A c l A1 c1 es w hr hc hr1 hc1 hT
end Go.Proofs.YtpdnabhpkdchjaaDoor.P
namespace Go.Proofs.YtpdnabhpkdchjaaDoor.P
open Go.RowKit Go.Proofs.YtpdnabhpkdchjaaDoorW.PrintWords Go.Proofs.YtpdnabhpkdchjaaDoorW.PrintLast Go.Proofs.YtpdnabhpkdchjaaDoorW.PrintMore
attribute [local go_sem] max2_int min2_int max_two min_two max_three min_three max_four min_four
set_option linter.unusedVariables false
set_option linter.unusedSimpArgs false
def spec_l4words.f :Option (List ByteArray):=some (([(⟨#[]⟩:ByteArray),(⟨#[112,97,115,115]⟩:ByteArray),(⟨#[103,104,111,115,116]⟩:ByteArray),(⟨#[100,101,97,100]⟩:ByteArray),(⟨#[97,108,105,118,101]⟩:ByteArray),(⟨#[114,101,115,101,116]⟩:ByteArray)]:List ByteArray))
set_option maxHeartbeats 8000000 in
set_option maxRecDepth 100000 in
theorem spec_l4words.calls  (r:List ByteArray) (w:World) (h:spec_l4words.f =some r) :
  Calls Tryd.prog 52 #[] w fun e w'=>∃ v0_:Value,e=.returned (v0_)∧Kd.R Kd.string 9 w' w.heap.size (fun _=>True) v0_ r∧Below w.heap.size w w':=by
 have HB:=Aside0.mk (Below.refl w.heap.size w)
 have H:(some (([(⟨#[]⟩:ByteArray),(⟨#[112,97,115,115]⟩:ByteArray),(⟨#[103,104,111,115,116]⟩:ByteArray),(⟨#[100,101,97,100]⟩:ByteArray),(⟨#[97,108,105,118,101]⟩:ByteArray),(⟨#[114,101,115,101,116]⟩:ByteArray)]:List ByteArray)))=some r:=h
 clear h
 obtain ⟨y116,hy116⟩:∃ y_:List ByteArray,y_=(([(⟨#[]⟩:ByteArray),(⟨#[112,97,115,115]⟩:ByteArray),(⟨#[103,104,111,115,116]⟩:ByteArray),(⟨#[100,101,97,100]⟩:ByteArray),(⟨#[97,108,105,118,101]⟩:ByteArray),(⟨#[114,101,115,101,116]⟩:ByteArray)]:List ByteArray)):=⟨_,rfl⟩
 replace H:(some y116)=some r:=by first|(rw [hy116];with_reducible exact H)|(have H2_:=(Option.bind_some _ _).symm.trans H;rw [hy116];with_reducible exact H2_)|(have H2_:=(Option.bind_some _ _).symm.trans H;with_reducible exact H2_)|with_reducible exact H|(rw [hy116];exact H)|exact H
 have Ny116:=Aside0.mk hy116
 clear hy116
 obtain rfl:=Option.some.inj H
 go_enter Tryd.func52,Tryd.ntmps52
 go_wp2_with (first|((with_reducible refine gate_dst (N:=1) rfl ?_);refine Kd.R_lit Kd.string _ 9 ?hg (N:=1) ?hd (xs:=([(⟨#[]⟩:ByteArray),(⟨#[112,97,115,115]⟩:ByteArray),(⟨#[103,104,111,115,116]⟩:ByteArray),(⟨#[100,101,97,100]⟩:ByteArray),(⟨#[97,108,105,118,101]⟩:ByteArray),(⟨#[114,101,115,101,116]⟩:ByteArray)]:List ByteArray)) (inner:=[.string (⟨#[]⟩:ByteArray),.string (⟨#[112,97,115,115]⟩:ByteArray),.string (⟨#[103,104,111,115,116]⟩:ByteArray),.string (⟨#[100,101,97,100]⟩:ByteArray),.string (⟨#[97,108,105,118,101]⟩:ByteArray),.string (⟨#[114,101,115,101,116]⟩:ByteArray)]) (ok:=fun _=>True) (okp:=fun _=>True) ?hr ?hp (fun _ hk=>hk) trivial (Below.refl _ _) (Nat.le_refl _) (by simp) ?_;(case hd=>rfl);(case hg=>rfl);(case hr=>first|(go_simp;done)|(go_simp;rfl));(case hp=>exact (Reps.one (show Kd.M Kd.string _ _ _ (⟨#[]⟩:ByteArray) [.string (⟨#[]⟩:ByteArray)] from rfl) (Reps.one (show Kd.M Kd.string _ _ _ (⟨#[112,97,115,115]⟩:ByteArray) [.string (⟨#[112,97,115,115]⟩:ByteArray)] from rfl) (Reps.one (show Kd.M Kd.string _ _ _ (⟨#[103,104,111,115,116]⟩:ByteArray) [.string (⟨#[103,104,111,115,116]⟩:ByteArray)] from rfl) (Reps.one (show Kd.M Kd.string _ _ _ (⟨#[100,101,97,100]⟩:ByteArray) [.string (⟨#[100,101,97,100]⟩:ByteArray)] from rfl) (Reps.one (show Kd.M Kd.string _ _ _ (⟨#[97,108,105,118,101]⟩:ByteArray) [.string (⟨#[97,108,105,118,101]⟩:ByteArray)] from rfl) (Reps.one (show Kd.M Kd.string _ _ _ (⟨#[114,101,115,101,116]⟩:ByteArray) [.string (⟨#[114,101,115,101,116]⟩:ByteArray)] from rfl) (Reps.none _ _))))))));intro v117 w1 ho2 hb hg_ hnew_;clear hg_ hnew_;(first|rw [← Ny116.out] at ho2|(simp only [Int.reduceToNat] at ho2;rw [← Ny116.out] at ho2));have n0_:=Aside0.mk (Kd.R_lower ho2 (below_size (by repeat (first|(with_reducible first|exact HB.out|apply below_alloc|apply pw_below_drewN|apply below_drew1)|exact HB.out))));have n1_:=Aside0.mk (below_step (by repeat (first|(with_reducible first|exact HB.out|apply below_alloc|apply pw_below_drewN|apply below_drew1)|exact HB.out)) hb);clear HB;have HO118:=n0_;have HB:=n1_;clear n0_ n1_;clear hb ho2))
 go_ret
 exact ⟨_,by first|rfl|(simp [errW_none,errW_some] <;> rfl)|(simp [*,errW_none,errW_some] <;> rfl),by (with_reducible repeat (first|apply Kd.R_alloc|apply Kd.R_drewN|apply Kd.R_drew));exact HO118.out,by repeat (first|(with_reducible first|exact HB.out|apply below_alloc|apply pw_below_drewN|apply below_drew1)|exact HB.out)⟩
end Go.Proofs.YtpdnabhpkdchjaaDoor.P
namespace Go.Proofs.YtpdnabhpkdchjaaDoor.P
open Go.RowKit Go.Proofs.YtpdnabhpkdchjaaDoorW.PrintWords Go.Proofs.YtpdnabhpkdchjaaDoorW.PrintLast Go.Proofs.YtpdnabhpkdchjaaDoorW.PrintMore
attribute [local go_sem] max2_int min2_int max_two min_two max_three min_three max_four min_four
set_option linter.unusedVariables false
set_option linter.unusedSimpArgs false
def spec_l4line.f (a0_0:Int) (a0_1:Int) (a0_2:Int):Option (ByteArray):=(spec_l4words.f).bind fun t120=>(if 0≤a0_0 then (if a0_0<(t120.length:Int) then (if (rdOf ByteArray.empty t120 a0_0).size+1≤9223372036854775807 then ((spec_l4decimal.f a0_1).bind fun t124=>(if ((rdOf ByteArray.empty t120 a0_0) ++ (⟨#[32]⟩:ByteArray)).size+t124.size≤9223372036854775807 then (if a0_2 > 0 then (if (((rdOf ByteArray.empty t120 a0_0) ++ (⟨#[32]⟩:ByteArray)) ++ t124).size+2≤9223372036854775807 then (if a0_2<0 then (if ((((rdOf ByteArray.empty t120 a0_0) ++ (⟨#[32]⟩:ByteArray)) ++ t124) ++ (⟨#[32,43]⟩:ByteArray)).size+2≤9223372036854775807 then (some (((((rdOf ByteArray.empty t120 a0_0) ++ (⟨#[32]⟩:ByteArray)) ++ t124) ++ (⟨#[32,43]⟩:ByteArray)) ++ (⟨#[32,45]⟩:ByteArray))) else (none)) else (some ((((rdOf ByteArray.empty t120 a0_0) ++ (⟨#[32]⟩:ByteArray)) ++ t124) ++ (⟨#[32,43]⟩:ByteArray)))) else (none)) else (if a0_2<0 then (if (((rdOf ByteArray.empty t120 a0_0) ++ (⟨#[32]⟩:ByteArray)) ++ t124).size+2≤9223372036854775807 then (some ((((rdOf ByteArray.empty t120 a0_0) ++ (⟨#[32]⟩:ByteArray)) ++ t124) ++ (⟨#[32,45]⟩:ByteArray))) else (none)) else (some (((rdOf ByteArray.empty t120 a0_0) ++ (⟨#[32]⟩:ByteArray)) ++ t124)))) else (none))) else (none)) else (none)) else (none))
def spec_l4line.T2:Bool × List (List Nat × List Nat):=(true,[([],[]),([],[]),([1],[1]),([0,2],[0,2]),([3],[3]),([4],[4]),([],[]),([6],[6]),([7],[7]),([5,8],[5,8]),([9,8,0,1,2,3,4,5,6,7,8,9],[9])])
def spec_l4line.B2:List Nat:=[0,0,2,7,15,31,0,64,192,511,1023]
theorem spec_l4line.tab2:rtab .any (opsOf Tryd.f27 2)=spec_l4line.T2:=by kernel_rfl
theorem spec_l4line.bits2:waitsOk spec_l4line.T2.2 spec_l4line.B2=true:=by kernel_rfl
set_option maxHeartbeats 8000000 in
set_option maxRecDepth 100000 in
theorem spec_l4line.calls (a0_0:Int) (a0_1:Int) (a0_2:Int) (r:ByteArray) (w:World) (h:spec_l4line.f a0_0 a0_1 a0_2=some r) :
  Calls Tryd.prog 27 #[.agg #[.int .i64 a0_0,.int .i64 a0_1,.int .i64 a0_2]] w fun e w'=>e=.returned (.string r)∧Below w.heap.size w w':=by
 have hu52:=Tryd.underlying52
 have HB:=Aside0.mk (Below.refl w.heap.size w)
 have H:((spec_l4words.f).bind fun t120=>(if 0≤a0_0 then (if a0_0<(t120.length:Int) then (if (rdOf ByteArray.empty t120 a0_0).size+1≤9223372036854775807 then ((spec_l4decimal.f a0_1).bind fun t124=>(if ((rdOf ByteArray.empty t120 a0_0) ++ (⟨#[32]⟩:ByteArray)).size+t124.size≤9223372036854775807 then (if a0_2 > 0 then (if (((rdOf ByteArray.empty t120 a0_0) ++ (⟨#[32]⟩:ByteArray)) ++ t124).size+2≤9223372036854775807 then (if a0_2<0 then (if ((((rdOf ByteArray.empty t120 a0_0) ++ (⟨#[32]⟩:ByteArray)) ++ t124) ++ (⟨#[32,43]⟩:ByteArray)).size+2≤9223372036854775807 then (some (((((rdOf ByteArray.empty t120 a0_0) ++ (⟨#[32]⟩:ByteArray)) ++ t124) ++ (⟨#[32,43]⟩:ByteArray)) ++ (⟨#[32,45]⟩:ByteArray))) else (none)) else (some ((((rdOf ByteArray.empty t120 a0_0) ++ (⟨#[32]⟩:ByteArray)) ++ t124) ++ (⟨#[32,43]⟩:ByteArray)))) else (none)) else (if a0_2<0 then (if (((rdOf ByteArray.empty t120 a0_0) ++ (⟨#[32]⟩:ByteArray)) ++ t124).size+2≤9223372036854775807 then (some ((((rdOf ByteArray.empty t120 a0_0) ++ (⟨#[32]⟩:ByteArray)) ++ t124) ++ (⟨#[32,45]⟩:ByteArray))) else (none)) else (some (((rdOf ByteArray.empty t120 a0_0) ++ (⟨#[32]⟩:ByteArray)) ++ t124)))) else (none))) else (none)) else (none)) else (none)))=some r:=h
 clear h
 replace H:=Option.bind_eq_some_iff.mp H
 obtain ⟨t120,A20,H⟩:=H
 replace H:(if 0≤a0_0 then (if a0_0<(t120.length:Int) then (if (rdOf ByteArray.empty t120 a0_0).size+1≤9223372036854775807 then ((spec_l4decimal.f a0_1).bind fun t124=>(if ((rdOf ByteArray.empty t120 a0_0) ++ (⟨#[32]⟩:ByteArray)).size+t124.size≤9223372036854775807 then (if a0_2 > 0 then (if (((rdOf ByteArray.empty t120 a0_0) ++ (⟨#[32]⟩:ByteArray)) ++ t124).size+2≤9223372036854775807 then (if a0_2<0 then (if ((((rdOf ByteArray.empty t120 a0_0) ++ (⟨#[32]⟩:ByteArray)) ++ t124) ++ (⟨#[32,43]⟩:ByteArray)).size+2≤9223372036854775807 then (some (((((rdOf ByteArray.empty t120 a0_0) ++ (⟨#[32]⟩:ByteArray)) ++ t124) ++ (⟨#[32,43]⟩:ByteArray)) ++ (⟨#[32,45]⟩:ByteArray))) else (none)) else (some ((((rdOf ByteArray.empty t120 a0_0) ++ (⟨#[32]⟩:ByteArray)) ++ t124) ++ (⟨#[32,43]⟩:ByteArray)))) else (none)) else (if a0_2<0 then (if (((rdOf ByteArray.empty t120 a0_0) ++ (⟨#[32]⟩:ByteArray)) ++ t124).size+2≤9223372036854775807 then (some ((((rdOf ByteArray.empty t120 a0_0) ++ (⟨#[32]⟩:ByteArray)) ++ t124) ++ (⟨#[32,45]⟩:ByteArray))) else (none)) else (some (((rdOf ByteArray.empty t120 a0_0) ++ (⟨#[32]⟩:ByteArray)) ++ t124)))) else (none))) else (none)) else (none)) else (none))=some r:=H
 have A2:=Aside0.mk A20
 clear A20
 by_cases c3:0≤a0_0
 ·rw [if_pos c3] at H
  have c3b0:decide (0≤a0_0)=true:=decide_eq_true c3
  clear c3
  by_cases c4:a0_0<(t120.length:Int)
  ·rw [if_pos c4] at H
   have c4b0:decide (a0_0<(t120.length:Int))=true:=decide_eq_true c4
   clear c4
   by_cases c5:(rdOf ByteArray.empty t120 a0_0).size+1≤9223372036854775807
   ·rw [if_pos c5] at H
    have c5b0:=eq_true c5
    have c5b1:decide ((rdOf ByteArray.empty t120 a0_0).size+1≤9223372036854775807)=true:=decide_eq_true c5
    try have c5b2:(9223372036854775807<(rdOf ByteArray.empty t120 a0_0).size+1)=False:=eq_false (Nat.not_lt.2 c5)
    replace H:=Option.bind_eq_some_iff.mp H
    obtain ⟨t124,A60,H⟩:=H
    replace H:(if ((rdOf ByteArray.empty t120 a0_0) ++ (⟨#[32]⟩:ByteArray)).size+t124.size≤9223372036854775807 then (if a0_2 > 0 then (if (((rdOf ByteArray.empty t120 a0_0) ++ (⟨#[32]⟩:ByteArray)) ++ t124).size+2≤9223372036854775807 then (if a0_2<0 then (if ((((rdOf ByteArray.empty t120 a0_0) ++ (⟨#[32]⟩:ByteArray)) ++ t124) ++ (⟨#[32,43]⟩:ByteArray)).size+2≤9223372036854775807 then (some (((((rdOf ByteArray.empty t120 a0_0) ++ (⟨#[32]⟩:ByteArray)) ++ t124) ++ (⟨#[32,43]⟩:ByteArray)) ++ (⟨#[32,45]⟩:ByteArray))) else (none)) else (some ((((rdOf ByteArray.empty t120 a0_0) ++ (⟨#[32]⟩:ByteArray)) ++ t124) ++ (⟨#[32,43]⟩:ByteArray)))) else (none)) else (if a0_2<0 then (if (((rdOf ByteArray.empty t120 a0_0) ++ (⟨#[32]⟩:ByteArray)) ++ t124).size+2≤9223372036854775807 then (some ((((rdOf ByteArray.empty t120 a0_0) ++ (⟨#[32]⟩:ByteArray)) ++ t124) ++ (⟨#[32,45]⟩:ByteArray))) else (none)) else (some (((rdOf ByteArray.empty t120 a0_0) ++ (⟨#[32]⟩:ByteArray)) ++ t124)))) else (none))=some r:=H
    have A6:=Aside0.mk A60
    clear A60
    by_cases c7:((rdOf ByteArray.empty t120 a0_0) ++ (⟨#[32]⟩:ByteArray)).size+t124.size≤9223372036854775807
    ·rw [if_pos c7] at H
     have c7b0:=eq_true c7
     have c7b1:decide (((rdOf ByteArray.empty t120 a0_0) ++ (⟨#[32]⟩:ByteArray)).size+t124.size≤9223372036854775807)=true:=decide_eq_true c7
     try have c7b2:(9223372036854775807<((rdOf ByteArray.empty t120 a0_0) ++ (⟨#[32]⟩:ByteArray)).size+t124.size)=False:=eq_false (Nat.not_lt.2 c7)
     have c7n0n_1:(rdOf ByteArray.empty t120 a0_0).size+1+t124.size≤9223372036854775807:=by have:=c7;simp only [ByteArray.size_append] at this;exact this
     have c7n0n_2:(9223372036854775807<(rdOf ByteArray.empty t120 a0_0).size+1+t124.size)=False:=eq_false (Nat.not_lt.2 c7n0n_1)
     have c7n0n_3:((rdOf ByteArray.empty t120 a0_0).size+1+t124.size≤9223372036854775807)=True:=eq_true c7n0n_1
     by_cases c8:a0_2 > 0
     ·rw [if_pos c8] at H
      have c8b0:decide (0<a0_2)=true:=decide_eq_true c8
      clear c8
      by_cases c9:(((rdOf ByteArray.empty t120 a0_0) ++ (⟨#[32]⟩:ByteArray)) ++ t124).size+2≤9223372036854775807
      ·rw [if_pos c9] at H
       have c9b0:=eq_true c9
       have c9b1:decide ((((rdOf ByteArray.empty t120 a0_0) ++ (⟨#[32]⟩:ByteArray)) ++ t124).size+2≤9223372036854775807)=true:=decide_eq_true c9
       try have c9b2:(9223372036854775807<(((rdOf ByteArray.empty t120 a0_0) ++ (⟨#[32]⟩:ByteArray)) ++ t124).size+2)=False:=eq_false (Nat.not_lt.2 c9)
       have c9n0n_1:(rdOf ByteArray.empty t120 a0_0).size+1+t124.size+2≤9223372036854775807:=by have:=c9;simp only [ByteArray.size_append] at this;exact this
       have c9n0n_2:(9223372036854775807<(rdOf ByteArray.empty t120 a0_0).size+1+t124.size+2)=False:=eq_false (Nat.not_lt.2 c9n0n_1)
       have c9n0n_3:((rdOf ByteArray.empty t120 a0_0).size+1+t124.size+2≤9223372036854775807)=True:=eq_true c9n0n_1
       by_cases c10:a0_2<0
       ·rw [if_pos c10] at H
        have c10b0:decide (a0_2<0)=true:=decide_eq_true c10
        clear c10
        by_cases c11:((((rdOf ByteArray.empty t120 a0_0) ++ (⟨#[32]⟩:ByteArray)) ++ t124) ++ (⟨#[32,43]⟩:ByteArray)).size+2≤9223372036854775807
        ·rw [if_pos c11] at H
         have c11b0:=eq_true c11
         have c11b1:decide (((((rdOf ByteArray.empty t120 a0_0) ++ (⟨#[32]⟩:ByteArray)) ++ t124) ++ (⟨#[32,43]⟩:ByteArray)).size+2≤9223372036854775807)=true:=decide_eq_true c11
         try have c11b2:(9223372036854775807<((((rdOf ByteArray.empty t120 a0_0) ++ (⟨#[32]⟩:ByteArray)) ++ t124) ++ (⟨#[32,43]⟩:ByteArray)).size+2)=False:=eq_false (Nat.not_lt.2 c11)
         have c11n0n_1:(rdOf ByteArray.empty t120 a0_0).size+1+t124.size+2+2≤9223372036854775807:=by have:=c11;simp only [ByteArray.size_append] at this;exact this
         have c11n0n_2:(9223372036854775807<(rdOf ByteArray.empty t120 a0_0).size+1+t124.size+2+2)=False:=eq_false (Nat.not_lt.2 c11n0n_1)
         have c11n0n_3:((rdOf ByteArray.empty t120 a0_0).size+1+t124.size+2+2≤9223372036854775807)=True:=eq_true c11n0n_1
         have c11n1n_1:(rdOf ByteArray.empty t120 a0_0).size+1+t124.size+4≤9223372036854775807:=by have:=c11;simp only [ByteArray.size_append] at this;exact this
         have c11n1n_2:(9223372036854775807<(rdOf ByteArray.empty t120 a0_0).size+1+t124.size+4)=False:=eq_false (Nat.not_lt.2 c11n1n_1)
         have c11n1n_3:((rdOf ByteArray.empty t120 a0_0).size+1+t124.size+4≤9223372036854775807)=True:=eq_true c11n1n_1
         obtain rfl:=Option.some.inj H
         go_enter Tryd.func27,Tryd.ntmps27
         try go_wp2_with (first|((with_reducible refine gate_dst (N:=1) rfl ?_);refine box_event ?hg (N:=1) ?hd (cs:=#[.int .i64 a0_0,.int .i64 a0_1,.int .i64 a0_2]) (t:=52) ?hr ?_;(case hd=>rfl);(case hg=>rfl);(case hr=>first|(go_simp;done)|(go_simp;rfl));intro gb119 hg w12 hbox hb;have n0_:=Aside0.mk (below_step (by repeat (first|(with_reducible first|exact HB.out|apply below_alloc|apply pw_below_drewN|apply below_drew1)|exact HB.out)) hb);have n1_:=Aside0.mk (hbox);have n2_:=Aside0.mk ((by rw [hg];exact (below_size (by repeat (first|(with_reducible first|exact HB.out|apply below_alloc|apply pw_below_drewN|apply below_drew1)|exact HB.out))):w.heap.size≤gb119));have n3_:=Aside0.mk ((by rw [hg];exact (below_size (by repeat (first|(with_reducible first|exact HB.out|apply below_alloc|apply pw_below_drewN|apply below_drew1)|exact HB.out))):w.heap.size≤gb119));clear HB;have HB:=n0_;have BK119:=n1_;have GW119:=n2_;have GE119:=n3_;clear n0_ n1_ n2_ n3_;clear hb hbox hg)|((with_reducible refine gate_callee (f:=52) rfl ?_);refine goesL_ (some 5) rfl rfl Tryd.func52 (by kernel_rfl) rfl #[] rfl (by (try simp only [List.map_toArray,List.map_cons,List.map_nil]);first|done|rfl|(simp only [List.length_drop,List.length_take];rfl)) ?_;(with_reducible refine (spec_l4words.calls  t120 _ A2.out).mono ?_);rintro e w13 ⟨v121,rfl,ho0,hb⟩;refine ⟨_,rfl,?_⟩;have n0_:=Aside0.mk (Kd.R_lower ho0 (below_size (by repeat (first|(with_reducible first|exact HB.out|apply below_alloc|apply pw_below_drewN|apply below_drew1|refine below_set ?_ GE119.out)|exact HB.out))));have n1_:=Aside0.mk (blk_below (g:=gb119) (o:=.cells #[.int .i64 a0_0,.int .i64 a0_1,.int .i64 a0_2] 52 (0,0)) (by (with_reducible repeat (first|refine blk_drewN ?_ _|refine blk_drew ?_|refine blk_alloc ?_ _));exact BK119.out) hb);have n2_:=Aside0.mk (below_step (by repeat (first|(with_reducible first|exact HB.out|apply below_alloc|apply pw_below_drewN|apply below_drew1|refine below_set ?_ GE119.out)|exact HB.out)) hb);clear BK119;clear HB;have HO122:=n0_;have BK119:=n1_;have HB:=n2_;clear n0_ n1_ n2_;(try clear hb);(try clear hb2);(try clear hk);(try clear hi);(try clear ho0)))
         have n0_:=Aside0.mk (Kd.R_drew HO122.out)
         have n1_:=Aside0.mk (blk_drew BK119.out)
         have n2_:=Aside0.mk (below_drew1 HB.out)
         clear HO122
         clear BK119
         clear HB
         have HO122:=n0_
         have BK119:=n1_
         have HB:=n2_
         clear n0_ n1_ n2_
         obtain ⟨Ao15,co15,eo15⟩:=Kd.R_slice HO122.out
         (first|subst eo15|(injection eo15 with f1_ f2_ f3_;have f4_:=f1_.symm;have f5_:=f3_.symm;clear f1_ f2_ f3_;subst f4_;subst f5_))
         have p123:0≤(a0_0:Int):=of_decide_eq_true (by first|(with_reducible assumption)|assumption)
         have q123:a0_0<(t120.length:Int):=of_decide_eq_true (by first|(with_reducible assumption)|assumption)
         obtain ⟨ad123,e123,hx123_0⟩:=Kd.at_string (Kd.R_reads' HO122.out).2.2 a0_0 p123 q123
         cases e123
         replace p123:=eq_true p123
         replace q123:=eq_true q123
         refine start_ (n:=11) (S:=fun w'=>w'.cell? ⟨gb119,0,none⟩=some (.int .i64 a0_0)∧w'.cell? ⟨gb119,1,none⟩=some (.int .i64 a0_1)∧w'.cell? ⟨gb119,2,none⟩=some (.int .i64 a0_2)∧w'.cell? (ad123.add (a0_0).toNat)=some (.string (rdOf ByteArray.empty t120 a0_0))) (ds:=[]) #[false,false,false,false,false,false,false,false,false,false,false] (by kernel_rfl) rfl rfl ⟨(blk_cell BK119.out 0).trans rfl,(blk_cell BK119.out 1).trans rfl,(blk_cell BK119.out 2).trans rfl,hx123_0⟩ (fun hHeld=>?_);refine with_tabW spec_l4line.tab2 spec_l4line.bits2 (fun HT_ HW_=>?_)
         generalize w13.drew=w14 at HO122 BK119 HB hx123_0 hHeld ⊢
         refine pure_ (i:=0) (N:=some 6) (v:=?_) (a':=?_) #[true,false,false,false,false,false,false,false,false,false,false] rfl rfl (any_of HT_.out (by kernel_rfl)) (fun _ _ _ h=>h) (Or.inl ⟨by rfl,?_⟩) ?_ ?_
         rotate_left
         ·intro w'
          go_simp
          with_reducible rfl
         rotate_left
         ·simp only [Act.put,List.setIfInBounds_toArray,List.set_cons_zero,List.set_cons_succ,i64_w,i32_w]
          rfl
         refine pure_ (i:=1) (N:=some 7) (v:=?_) (a':=?_) #[true,true,false,false,false,false,false,false,false,false,false] rfl rfl (any_of HT_.out (by kernel_rfl)) (fun _ _ _ h=>h) (Or.inl ⟨by rfl,?_⟩) ?_ ?_
         rotate_left
         ·intro w'
          go_simp
          with_reducible rfl
         rotate_left
         ·simp only [Act.put,List.setIfInBounds_toArray,List.set_cons_zero,List.set_cons_succ,i64_w,i32_w]
          rfl
         refine pure_ (i:=6) (N:=some 12) (v:=?_) (a':=?_) #[true,true,false,false,false,false,true,false,false,false,false] rfl rfl (any_of HT_.out (by kernel_rfl)) (fun _ _ _ h=>h) (Or.inl ⟨by rfl,?_⟩) ?_ ?_
         rotate_left
         ·intro w'
          go_simp
          with_reducible rfl
         rotate_left
         ·simp only [Act.put,List.setIfInBounds_toArray,List.set_cons_zero,List.set_cons_succ,i64_w,i32_w]
          rfl
         refine take_ (i:=2) (N:=some 8) (v:=?_) (a':=?_) #[true,true,true,false,false,false,true,false,false,false,false] rfl rfl (take_ofW HT_.out HW_.out (by kernel_rfl)) (fun _ _ _ h=>h) (Or.inl ⟨by rfl,?_⟩) hHeld ?_ ?_
         rotate_left
         ·rintro w' ⟨s0,s1,s2,s3⟩
          go_simp
          with_reducible rfl
         rotate_left
         ·simp only [Act.put,List.setIfInBounds_toArray,List.set_cons_zero,List.set_cons_succ,i64_w,i32_w]
          rfl
         refine pure_ (i:=3) (N:=some 9) (v:=?_) (a':=?_) #[true,true,true,true,false,false,true,false,false,false,false] rfl rfl (any_of HT_.out (by kernel_rfl)) (fun _ _ _ h=>h) (Or.inl ⟨by rfl,?_⟩) ?_ ?_
         rotate_left
         ·intro w'
          go_simp
          with_reducible rfl
         rotate_left
         ·simp only [Act.put,List.setIfInBounds_toArray,List.set_cons_zero,List.set_cons_succ,i64_w,i32_w]
          rfl
         refine take_ (i:=4) (N:=some 10) (v:=?_) (a':=?_) #[true,true,true,true,true,false,true,false,false,false,false] rfl rfl (take_ofW HT_.out HW_.out (by kernel_rfl)) (fun _ _ _ h=>h) (Or.inl ⟨by rfl,?_⟩) hHeld ?_ ?_
         rotate_left
         ·rintro w' ⟨s0,s1,s2,s3⟩
          go_simp
          with_reducible rfl
         rotate_left
         ·simp only [Act.put,List.setIfInBounds_toArray,List.set_cons_zero,List.set_cons_succ,i64_w,i32_w]
          rfl
         refine pure_ (i:=5) (N:=some 11) (v:=?_) (a':=?_) #[true,true,true,true,true,true,true,false,false,false,false] rfl rfl (any_of HT_.out (by kernel_rfl)) (fun _ _ _ h=>h) (Or.inl ⟨by rfl,?_⟩) ?_ ?_
         rotate_left
         ·intro w'
          go_simp
          with_reducible rfl
         rotate_left
         ·simp only [Act.put,List.setIfInBounds_toArray,List.set_cons_zero,List.set_cons_succ,i64_w,i32_w]
          rfl
         refine take_ (i:=7) (N:=some 13) (v:=?_) (a':=?_) #[true,true,true,true,true,true,true,true,false,false,false] rfl rfl (take_ofW HT_.out HW_.out (by kernel_rfl)) (fun _ _ _ h=>h) (Or.inl ⟨by rfl,?_⟩) hHeld ?_ ?_
         rotate_left
         ·rintro w' ⟨s0,s1,s2,s3⟩
          go_simp
          with_reducible rfl
         rotate_left
         ·simp only [Act.put,List.setIfInBounds_toArray,List.set_cons_zero,List.set_cons_succ,i64_w,i32_w]
          rfl
         refine one_ (i:=8) (N:=some 14) #[true,true,true,true,true,true,true,true,true,false,false] rfl rfl (one_of HT_.out (by kernel_rfl)) (by decide) (fun K hK=>?_)
         refine goes_ Tryd.func44 (by kernel_rfl) rfl #[.int .i64 a0_1] (by rfl) rfl rfl (by (try simp only [List.map_toArray,List.map_cons,List.map_nil]);first|done|rfl|(simp only [List.length_drop,List.length_take];rfl)) ?_
         with_reducible refine (spec_l4decimal.calls a0_1 t124 _ A6.out).mono ?_
         rintro e w16 ⟨rfl,hb⟩
         have HS3_:=(hb.cell (World.block_lt_of_cell? _ _ (hHeld.2.2.2))).trans (hHeld.2.2.2)
         refine ⟨_,rfl,?_⟩
         have n0_:=Aside0.mk (Kd.R_below (by (with_reducible repeat (first|apply Kd.R_alloc|apply Kd.R_drewN|apply Kd.R_drew));exact HO122.out) hb)
         have n1_:=Aside0.mk (blk_below (g:=gb119) (o:=.cells #[.int .i64 a0_0,.int .i64 a0_1,.int .i64 a0_2] 52 (0,0)) (by (with_reducible repeat (first|refine blk_drewN ?_ _|refine blk_drew ?_|refine blk_alloc ?_ _));exact BK119.out) hb)
         have n2_:=Aside0.mk (below_step (by repeat (first|(with_reducible first|exact HB.out|apply below_alloc|apply pw_below_drewN|apply below_drew1|refine below_set ?_ GE119.out)|exact HB.out)) hb)
         clear HO122
         clear BK119
         clear HB
         have HO122:=n0_
         have BK119:=n1_
         have HB:=n2_
         clear n0_ n1_ n2_
         (try clear hb)
         (try clear hb2)
         (try clear hk)
         (try clear hi)
         refine hK.out _ _ ⟨(blk_cell BK119.out 0).trans rfl,(blk_cell BK119.out 1).trans rfl,(blk_cell BK119.out 2).trans rfl,HS3_⟩ (fun hHeld=>?_)
         clear hK K
         refine norm_ (a':=?_) ?_ ?_
         rotate_left
         ·show Act.put _ (some 14) _=_
          simp only [Act.put,List.setIfInBounds_toArray,List.set_cons_zero,List.set_cons_succ,i64_w,i32_w]
          rfl
         refine pure_ (i:=9) (N:=some 15) (v:=?_) (a':=?_) #[true,true,true,true,true,true,true,true,true,true,false] rfl rfl (any_of HT_.out (by kernel_rfl)) (fun _ _ _ h=>h) (Or.inl ⟨by rfl,?_⟩) ?_ ?_
         rotate_left
         ·intro w'
          go_simp
          with_reducible rfl
         rotate_left
         ·simp only [Act.put,List.setIfInBounds_toArray,List.set_cons_zero,List.set_cons_succ,i64_w,i32_w]
          rfl
         refine pure_ (i:=10) (N:=some 4) (v:=?_) (a':=?_) #[true,true,true,true,true,true,true,true,true,true,true] rfl rfl (any_of HT_.out (by kernel_rfl)) (fun _ _ _ h=>h) (Or.inl ⟨by rfl,?_⟩) ?_ ?_
         rotate_left
         ·intro w'
          go_simp
          with_reducible rfl
         rotate_left
         ·simp only [Act.put,List.setIfInBounds_toArray,List.set_cons_zero,List.set_cons_succ,i64_w,i32_w]
          rfl
         refine done_ (done_of HT_.out (by kernel_rfl)) ?_
         have hcz17_0:w16.cell? ⟨gb119,0,none⟩=some (.int .i64 a0_0):=(blk_cell BK119.out 0).trans rfl
         have hcz17_1:w16.cell? ⟨gb119,1,none⟩=some (.int .i64 a0_1):=(blk_cell BK119.out 1).trans rfl
         have hcz17_2:w16.cell? ⟨gb119,2,none⟩=some (.int .i64 a0_2):=(blk_cell BK119.out 2).trans rfl
         have hfz17_0:=blk_frozen BK119.out 0
         have hfz17_1:=blk_frozen BK119.out 1
         have hfz17_2:=blk_frozen BK119.out 2
         try go_wp2
         go_ret
         exact ⟨by first|rfl|(simp [errW_none,errW_some] <;> rfl)|(simp [*,errW_none,errW_some] <;> rfl),by repeat (first|(with_reducible first|exact HB.out|apply below_alloc|apply pw_below_drewN|apply below_drew1|refine below_set ?_ GE119.out)|exact HB.out)⟩
        rw [if_neg c11] at H
        exact absurd H (by simp)
       rw [if_neg c10] at H
       have c10b0:decide (a0_2<0)=false:=decide_eq_false c10
       clear c10
       obtain rfl:=Option.some.inj H
       go_enter Tryd.func27,Tryd.ntmps27
       try go_wp2_with (first|((with_reducible refine gate_dst (N:=1) rfl ?_);refine box_event ?hg (N:=1) ?hd (cs:=#[.int .i64 a0_0,.int .i64 a0_1,.int .i64 a0_2]) (t:=52) ?hr ?_;(case hd=>rfl);(case hg=>rfl);(case hr=>first|(go_simp;done)|(go_simp;rfl));intro gb119 hg w18 hbox hb;have n0_:=Aside0.mk (below_step (by repeat (first|(with_reducible first|exact HB.out|apply below_alloc|apply pw_below_drewN|apply below_drew1)|exact HB.out)) hb);have n1_:=Aside0.mk (hbox);have n2_:=Aside0.mk ((by rw [hg];exact (below_size (by repeat (first|(with_reducible first|exact HB.out|apply below_alloc|apply pw_below_drewN|apply below_drew1)|exact HB.out))):w.heap.size≤gb119));have n3_:=Aside0.mk ((by rw [hg];exact (below_size (by repeat (first|(with_reducible first|exact HB.out|apply below_alloc|apply pw_below_drewN|apply below_drew1)|exact HB.out))):w.heap.size≤gb119));clear HB;have HB:=n0_;have BK119:=n1_;have GW119:=n2_;have GE119:=n3_;clear n0_ n1_ n2_ n3_;clear hb hbox hg)|((with_reducible refine gate_callee (f:=52) rfl ?_);refine goesL_ (some 5) rfl rfl Tryd.func52 (by kernel_rfl) rfl #[] rfl (by (try simp only [List.map_toArray,List.map_cons,List.map_nil]);first|done|rfl|(simp only [List.length_drop,List.length_take];rfl)) ?_;(with_reducible refine (spec_l4words.calls  t120 _ A2.out).mono ?_);rintro e w19 ⟨v121,rfl,ho0,hb⟩;refine ⟨_,rfl,?_⟩;have n0_:=Aside0.mk (Kd.R_lower ho0 (below_size (by repeat (first|(with_reducible first|exact HB.out|apply below_alloc|apply pw_below_drewN|apply below_drew1|refine below_set ?_ GE119.out)|exact HB.out))));have n1_:=Aside0.mk (blk_below (g:=gb119) (o:=.cells #[.int .i64 a0_0,.int .i64 a0_1,.int .i64 a0_2] 52 (0,0)) (by (with_reducible repeat (first|refine blk_drewN ?_ _|refine blk_drew ?_|refine blk_alloc ?_ _));exact BK119.out) hb);have n2_:=Aside0.mk (below_step (by repeat (first|(with_reducible first|exact HB.out|apply below_alloc|apply pw_below_drewN|apply below_drew1|refine below_set ?_ GE119.out)|exact HB.out)) hb);clear BK119;clear HB;have HO122:=n0_;have BK119:=n1_;have HB:=n2_;clear n0_ n1_ n2_;(try clear hb);(try clear hb2);(try clear hk);(try clear hi);(try clear ho0)))
       have n0_:=Aside0.mk (Kd.R_drew HO122.out)
       have n1_:=Aside0.mk (blk_drew BK119.out)
       have n2_:=Aside0.mk (below_drew1 HB.out)
       clear HO122
       clear BK119
       clear HB
       have HO122:=n0_
       have BK119:=n1_
       have HB:=n2_
       clear n0_ n1_ n2_
       obtain ⟨Ao21,co21,eo21⟩:=Kd.R_slice HO122.out
       (first|subst eo21|(injection eo21 with f1_ f2_ f3_;have f4_:=f1_.symm;have f5_:=f3_.symm;clear f1_ f2_ f3_;subst f4_;subst f5_))
       have p123:0≤(a0_0:Int):=of_decide_eq_true (by first|(with_reducible assumption)|assumption)
       have q123:a0_0<(t120.length:Int):=of_decide_eq_true (by first|(with_reducible assumption)|assumption)
       obtain ⟨ad123,e123,hx123_0⟩:=Kd.at_string (Kd.R_reads' HO122.out).2.2 a0_0 p123 q123
       cases e123
       replace p123:=eq_true p123
       replace q123:=eq_true q123
       refine start_ (n:=11) (S:=fun w'=>w'.cell? ⟨gb119,0,none⟩=some (.int .i64 a0_0)∧w'.cell? ⟨gb119,1,none⟩=some (.int .i64 a0_1)∧w'.cell? ⟨gb119,2,none⟩=some (.int .i64 a0_2)∧w'.cell? (ad123.add (a0_0).toNat)=some (.string (rdOf ByteArray.empty t120 a0_0))) (ds:=[]) #[false,false,false,false,false,false,false,false,false,false,false] (by kernel_rfl) rfl rfl ⟨(blk_cell BK119.out 0).trans rfl,(blk_cell BK119.out 1).trans rfl,(blk_cell BK119.out 2).trans rfl,hx123_0⟩ (fun hHeld=>?_);refine with_tabW spec_l4line.tab2 spec_l4line.bits2 (fun HT_ HW_=>?_)
       generalize w19.drew=w20 at HO122 BK119 HB hx123_0 hHeld ⊢
       refine pure_ (i:=0) (N:=some 6) (v:=?_) (a':=?_) #[true,false,false,false,false,false,false,false,false,false,false] rfl rfl (any_of HT_.out (by kernel_rfl)) (fun _ _ _ h=>h) (Or.inl ⟨by rfl,?_⟩) ?_ ?_
       rotate_left
       ·intro w'
        go_simp
        with_reducible rfl
       rotate_left
       ·simp only [Act.put,List.setIfInBounds_toArray,List.set_cons_zero,List.set_cons_succ,i64_w,i32_w]
        rfl
       refine pure_ (i:=1) (N:=some 7) (v:=?_) (a':=?_) #[true,true,false,false,false,false,false,false,false,false,false] rfl rfl (any_of HT_.out (by kernel_rfl)) (fun _ _ _ h=>h) (Or.inl ⟨by rfl,?_⟩) ?_ ?_
       rotate_left
       ·intro w'
        go_simp
        with_reducible rfl
       rotate_left
       ·simp only [Act.put,List.setIfInBounds_toArray,List.set_cons_zero,List.set_cons_succ,i64_w,i32_w]
        rfl
       refine pure_ (i:=6) (N:=some 12) (v:=?_) (a':=?_) #[true,true,false,false,false,false,true,false,false,false,false] rfl rfl (any_of HT_.out (by kernel_rfl)) (fun _ _ _ h=>h) (Or.inl ⟨by rfl,?_⟩) ?_ ?_
       rotate_left
       ·intro w'
        go_simp
        with_reducible rfl
       rotate_left
       ·simp only [Act.put,List.setIfInBounds_toArray,List.set_cons_zero,List.set_cons_succ,i64_w,i32_w]
        rfl
       refine take_ (i:=2) (N:=some 8) (v:=?_) (a':=?_) #[true,true,true,false,false,false,true,false,false,false,false] rfl rfl (take_ofW HT_.out HW_.out (by kernel_rfl)) (fun _ _ _ h=>h) (Or.inl ⟨by rfl,?_⟩) hHeld ?_ ?_
       rotate_left
       ·rintro w' ⟨s0,s1,s2,s3⟩
        go_simp
        with_reducible rfl
       rotate_left
       ·simp only [Act.put,List.setIfInBounds_toArray,List.set_cons_zero,List.set_cons_succ,i64_w,i32_w]
        rfl
       refine pure_ (i:=3) (N:=some 9) (v:=?_) (a':=?_) #[true,true,true,true,false,false,true,false,false,false,false] rfl rfl (any_of HT_.out (by kernel_rfl)) (fun _ _ _ h=>h) (Or.inl ⟨by rfl,?_⟩) ?_ ?_
       rotate_left
       ·intro w'
        go_simp
        with_reducible rfl
       rotate_left
       ·simp only [Act.put,List.setIfInBounds_toArray,List.set_cons_zero,List.set_cons_succ,i64_w,i32_w]
        rfl
       refine take_ (i:=4) (N:=some 10) (v:=?_) (a':=?_) #[true,true,true,true,true,false,true,false,false,false,false] rfl rfl (take_ofW HT_.out HW_.out (by kernel_rfl)) (fun _ _ _ h=>h) (Or.inl ⟨by rfl,?_⟩) hHeld ?_ ?_
       rotate_left
       ·rintro w' ⟨s0,s1,s2,s3⟩
        go_simp
        with_reducible rfl
       rotate_left
       ·simp only [Act.put,List.setIfInBounds_toArray,List.set_cons_zero,List.set_cons_succ,i64_w,i32_w]
        rfl
       refine pure_ (i:=5) (N:=some 11) (v:=?_) (a':=?_) #[true,true,true,true,true,true,true,false,false,false,false] rfl rfl (any_of HT_.out (by kernel_rfl)) (fun _ _ _ h=>h) (Or.inl ⟨by rfl,?_⟩) ?_ ?_
       rotate_left
       ·intro w'
        go_simp
        with_reducible rfl
       rotate_left
       ·simp only [Act.put,List.setIfInBounds_toArray,List.set_cons_zero,List.set_cons_succ,i64_w,i32_w]
        rfl
       refine take_ (i:=7) (N:=some 13) (v:=?_) (a':=?_) #[true,true,true,true,true,true,true,true,false,false,false] rfl rfl (take_ofW HT_.out HW_.out (by kernel_rfl)) (fun _ _ _ h=>h) (Or.inl ⟨by rfl,?_⟩) hHeld ?_ ?_
       rotate_left
       ·rintro w' ⟨s0,s1,s2,s3⟩
        go_simp
        with_reducible rfl
       rotate_left
       ·simp only [Act.put,List.setIfInBounds_toArray,List.set_cons_zero,List.set_cons_succ,i64_w,i32_w]
        rfl
       refine one_ (i:=8) (N:=some 14) #[true,true,true,true,true,true,true,true,true,false,false] rfl rfl (one_of HT_.out (by kernel_rfl)) (by decide) (fun K hK=>?_)
       refine goes_ Tryd.func44 (by kernel_rfl) rfl #[.int .i64 a0_1] (by rfl) rfl rfl (by (try simp only [List.map_toArray,List.map_cons,List.map_nil]);first|done|rfl|(simp only [List.length_drop,List.length_take];rfl)) ?_
       with_reducible refine (spec_l4decimal.calls a0_1 t124 _ A6.out).mono ?_
       rintro e w22 ⟨rfl,hb⟩
       have HS3_:=(hb.cell (World.block_lt_of_cell? _ _ (hHeld.2.2.2))).trans (hHeld.2.2.2)
       refine ⟨_,rfl,?_⟩
       have n0_:=Aside0.mk (Kd.R_below (by (with_reducible repeat (first|apply Kd.R_alloc|apply Kd.R_drewN|apply Kd.R_drew));exact HO122.out) hb)
       have n1_:=Aside0.mk (blk_below (g:=gb119) (o:=.cells #[.int .i64 a0_0,.int .i64 a0_1,.int .i64 a0_2] 52 (0,0)) (by (with_reducible repeat (first|refine blk_drewN ?_ _|refine blk_drew ?_|refine blk_alloc ?_ _));exact BK119.out) hb)
       have n2_:=Aside0.mk (below_step (by repeat (first|(with_reducible first|exact HB.out|apply below_alloc|apply pw_below_drewN|apply below_drew1|refine below_set ?_ GE119.out)|exact HB.out)) hb)
       clear HO122
       clear BK119
       clear HB
       have HO122:=n0_
       have BK119:=n1_
       have HB:=n2_
       clear n0_ n1_ n2_
       (try clear hb)
       (try clear hb2)
       (try clear hk)
       (try clear hi)
       refine hK.out _ _ ⟨(blk_cell BK119.out 0).trans rfl,(blk_cell BK119.out 1).trans rfl,(blk_cell BK119.out 2).trans rfl,HS3_⟩ (fun hHeld=>?_)
       clear hK K
       refine norm_ (a':=?_) ?_ ?_
       rotate_left
       ·show Act.put _ (some 14) _=_
        simp only [Act.put,List.setIfInBounds_toArray,List.set_cons_zero,List.set_cons_succ,i64_w,i32_w]
        rfl
       refine pure_ (i:=9) (N:=some 15) (v:=?_) (a':=?_) #[true,true,true,true,true,true,true,true,true,true,false] rfl rfl (any_of HT_.out (by kernel_rfl)) (fun _ _ _ h=>h) (Or.inl ⟨by rfl,?_⟩) ?_ ?_
       rotate_left
       ·intro w'
        go_simp
        with_reducible rfl
       rotate_left
       ·simp only [Act.put,List.setIfInBounds_toArray,List.set_cons_zero,List.set_cons_succ,i64_w,i32_w]
        rfl
       refine pure_ (i:=10) (N:=some 4) (v:=?_) (a':=?_) #[true,true,true,true,true,true,true,true,true,true,true] rfl rfl (any_of HT_.out (by kernel_rfl)) (fun _ _ _ h=>h) (Or.inl ⟨by rfl,?_⟩) ?_ ?_
       rotate_left
       ·intro w'
        go_simp
        with_reducible rfl
       rotate_left
       ·simp only [Act.put,List.setIfInBounds_toArray,List.set_cons_zero,List.set_cons_succ,i64_w,i32_w]
        rfl
       refine done_ (done_of HT_.out (by kernel_rfl)) ?_
       have hcz23_0:w22.cell? ⟨gb119,0,none⟩=some (.int .i64 a0_0):=(blk_cell BK119.out 0).trans rfl
       have hcz23_1:w22.cell? ⟨gb119,1,none⟩=some (.int .i64 a0_1):=(blk_cell BK119.out 1).trans rfl
       have hcz23_2:w22.cell? ⟨gb119,2,none⟩=some (.int .i64 a0_2):=(blk_cell BK119.out 2).trans rfl
       have hfz23_0:=blk_frozen BK119.out 0
       have hfz23_1:=blk_frozen BK119.out 1
       have hfz23_2:=blk_frozen BK119.out 2
       try go_wp2
       go_ret
       exact ⟨by first|rfl|(simp [errW_none,errW_some] <;> rfl)|(simp [*,errW_none,errW_some] <;> rfl),by repeat (first|(with_reducible first|exact HB.out|apply below_alloc|apply pw_below_drewN|apply below_drew1|refine below_set ?_ GE119.out)|exact HB.out)⟩
      rw [if_neg c9] at H
      exact absurd H (by simp)
     rw [if_neg c8] at H
     have c8b0:decide (0<a0_2)=false:=decide_eq_false c8
     clear c8
     by_cases c24:a0_2<0
     ·rw [if_pos c24] at H
      have c24b0:decide (a0_2<0)=true:=decide_eq_true c24
      clear c24
      by_cases c25:(((rdOf ByteArray.empty t120 a0_0) ++ (⟨#[32]⟩:ByteArray)) ++ t124).size+2≤9223372036854775807
      ·rw [if_pos c25] at H
       have c25b0:=eq_true c25
       have c25b1:decide ((((rdOf ByteArray.empty t120 a0_0) ++ (⟨#[32]⟩:ByteArray)) ++ t124).size+2≤9223372036854775807)=true:=decide_eq_true c25
       try have c25b2:(9223372036854775807<(((rdOf ByteArray.empty t120 a0_0) ++ (⟨#[32]⟩:ByteArray)) ++ t124).size+2)=False:=eq_false (Nat.not_lt.2 c25)
       have c25n0n_1:(rdOf ByteArray.empty t120 a0_0).size+1+t124.size+2≤9223372036854775807:=by have:=c25;simp only [ByteArray.size_append] at this;exact this
       have c25n0n_2:(9223372036854775807<(rdOf ByteArray.empty t120 a0_0).size+1+t124.size+2)=False:=eq_false (Nat.not_lt.2 c25n0n_1)
       have c25n0n_3:((rdOf ByteArray.empty t120 a0_0).size+1+t124.size+2≤9223372036854775807)=True:=eq_true c25n0n_1
       obtain rfl:=Option.some.inj H
       go_enter Tryd.func27,Tryd.ntmps27
       try go_wp2_with (first|((with_reducible refine gate_dst (N:=1) rfl ?_);refine box_event ?hg (N:=1) ?hd (cs:=#[.int .i64 a0_0,.int .i64 a0_1,.int .i64 a0_2]) (t:=52) ?hr ?_;(case hd=>rfl);(case hg=>rfl);(case hr=>first|(go_simp;done)|(go_simp;rfl));intro gb119 hg w26 hbox hb;have n0_:=Aside0.mk (below_step (by repeat (first|(with_reducible first|exact HB.out|apply below_alloc|apply pw_below_drewN|apply below_drew1)|exact HB.out)) hb);have n1_:=Aside0.mk (hbox);have n2_:=Aside0.mk ((by rw [hg];exact (below_size (by repeat (first|(with_reducible first|exact HB.out|apply below_alloc|apply pw_below_drewN|apply below_drew1)|exact HB.out))):w.heap.size≤gb119));have n3_:=Aside0.mk ((by rw [hg];exact (below_size (by repeat (first|(with_reducible first|exact HB.out|apply below_alloc|apply pw_below_drewN|apply below_drew1)|exact HB.out))):w.heap.size≤gb119));clear HB;have HB:=n0_;have BK119:=n1_;have GW119:=n2_;have GE119:=n3_;clear n0_ n1_ n2_ n3_;clear hb hbox hg)|((with_reducible refine gate_callee (f:=52) rfl ?_);refine goesL_ (some 5) rfl rfl Tryd.func52 (by kernel_rfl) rfl #[] rfl (by (try simp only [List.map_toArray,List.map_cons,List.map_nil]);first|done|rfl|(simp only [List.length_drop,List.length_take];rfl)) ?_;(with_reducible refine (spec_l4words.calls  t120 _ A2.out).mono ?_);rintro e w27 ⟨v121,rfl,ho0,hb⟩;refine ⟨_,rfl,?_⟩;have n0_:=Aside0.mk (Kd.R_lower ho0 (below_size (by repeat (first|(with_reducible first|exact HB.out|apply below_alloc|apply pw_below_drewN|apply below_drew1|refine below_set ?_ GE119.out)|exact HB.out))));have n1_:=Aside0.mk (blk_below (g:=gb119) (o:=.cells #[.int .i64 a0_0,.int .i64 a0_1,.int .i64 a0_2] 52 (0,0)) (by (with_reducible repeat (first|refine blk_drewN ?_ _|refine blk_drew ?_|refine blk_alloc ?_ _));exact BK119.out) hb);have n2_:=Aside0.mk (below_step (by repeat (first|(with_reducible first|exact HB.out|apply below_alloc|apply pw_below_drewN|apply below_drew1|refine below_set ?_ GE119.out)|exact HB.out)) hb);clear BK119;clear HB;have HO122:=n0_;have BK119:=n1_;have HB:=n2_;clear n0_ n1_ n2_;(try clear hb);(try clear hb2);(try clear hk);(try clear hi);(try clear ho0)))
       have n0_:=Aside0.mk (Kd.R_drew HO122.out)
       have n1_:=Aside0.mk (blk_drew BK119.out)
       have n2_:=Aside0.mk (below_drew1 HB.out)
       clear HO122
       clear BK119
       clear HB
       have HO122:=n0_
       have BK119:=n1_
       have HB:=n2_
       clear n0_ n1_ n2_
       obtain ⟨Ao29,co29,eo29⟩:=Kd.R_slice HO122.out
       (first|subst eo29|(injection eo29 with f1_ f2_ f3_;have f4_:=f1_.symm;have f5_:=f3_.symm;clear f1_ f2_ f3_;subst f4_;subst f5_))
       have p123:0≤(a0_0:Int):=of_decide_eq_true (by first|(with_reducible assumption)|assumption)
       have q123:a0_0<(t120.length:Int):=of_decide_eq_true (by first|(with_reducible assumption)|assumption)
       obtain ⟨ad123,e123,hx123_0⟩:=Kd.at_string (Kd.R_reads' HO122.out).2.2 a0_0 p123 q123
       cases e123
       replace p123:=eq_true p123
       replace q123:=eq_true q123
       refine start_ (n:=11) (S:=fun w'=>w'.cell? ⟨gb119,0,none⟩=some (.int .i64 a0_0)∧w'.cell? ⟨gb119,1,none⟩=some (.int .i64 a0_1)∧w'.cell? ⟨gb119,2,none⟩=some (.int .i64 a0_2)∧w'.cell? (ad123.add (a0_0).toNat)=some (.string (rdOf ByteArray.empty t120 a0_0))) (ds:=[]) #[false,false,false,false,false,false,false,false,false,false,false] (by kernel_rfl) rfl rfl ⟨(blk_cell BK119.out 0).trans rfl,(blk_cell BK119.out 1).trans rfl,(blk_cell BK119.out 2).trans rfl,hx123_0⟩ (fun hHeld=>?_);refine with_tabW spec_l4line.tab2 spec_l4line.bits2 (fun HT_ HW_=>?_)
       generalize w27.drew=w28 at HO122 BK119 HB hx123_0 hHeld ⊢
       refine pure_ (i:=0) (N:=some 6) (v:=?_) (a':=?_) #[true,false,false,false,false,false,false,false,false,false,false] rfl rfl (any_of HT_.out (by kernel_rfl)) (fun _ _ _ h=>h) (Or.inl ⟨by rfl,?_⟩) ?_ ?_
       rotate_left
       ·intro w'
        go_simp
        with_reducible rfl
       rotate_left
       ·simp only [Act.put,List.setIfInBounds_toArray,List.set_cons_zero,List.set_cons_succ,i64_w,i32_w]
        rfl
       refine pure_ (i:=1) (N:=some 7) (v:=?_) (a':=?_) #[true,true,false,false,false,false,false,false,false,false,false] rfl rfl (any_of HT_.out (by kernel_rfl)) (fun _ _ _ h=>h) (Or.inl ⟨by rfl,?_⟩) ?_ ?_
       rotate_left
       ·intro w'
        go_simp
        with_reducible rfl
       rotate_left
       ·simp only [Act.put,List.setIfInBounds_toArray,List.set_cons_zero,List.set_cons_succ,i64_w,i32_w]
        rfl
       refine pure_ (i:=6) (N:=some 12) (v:=?_) (a':=?_) #[true,true,false,false,false,false,true,false,false,false,false] rfl rfl (any_of HT_.out (by kernel_rfl)) (fun _ _ _ h=>h) (Or.inl ⟨by rfl,?_⟩) ?_ ?_
       rotate_left
       ·intro w'
        go_simp
        with_reducible rfl
       rotate_left
       ·simp only [Act.put,List.setIfInBounds_toArray,List.set_cons_zero,List.set_cons_succ,i64_w,i32_w]
        rfl
       refine take_ (i:=2) (N:=some 8) (v:=?_) (a':=?_) #[true,true,true,false,false,false,true,false,false,false,false] rfl rfl (take_ofW HT_.out HW_.out (by kernel_rfl)) (fun _ _ _ h=>h) (Or.inl ⟨by rfl,?_⟩) hHeld ?_ ?_
       rotate_left
       ·rintro w' ⟨s0,s1,s2,s3⟩
        go_simp
        with_reducible rfl
       rotate_left
       ·simp only [Act.put,List.setIfInBounds_toArray,List.set_cons_zero,List.set_cons_succ,i64_w,i32_w]
        rfl
       refine pure_ (i:=3) (N:=some 9) (v:=?_) (a':=?_) #[true,true,true,true,false,false,true,false,false,false,false] rfl rfl (any_of HT_.out (by kernel_rfl)) (fun _ _ _ h=>h) (Or.inl ⟨by rfl,?_⟩) ?_ ?_
       rotate_left
       ·intro w'
        go_simp
        with_reducible rfl
       rotate_left
       ·simp only [Act.put,List.setIfInBounds_toArray,List.set_cons_zero,List.set_cons_succ,i64_w,i32_w]
        rfl
       refine take_ (i:=4) (N:=some 10) (v:=?_) (a':=?_) #[true,true,true,true,true,false,true,false,false,false,false] rfl rfl (take_ofW HT_.out HW_.out (by kernel_rfl)) (fun _ _ _ h=>h) (Or.inl ⟨by rfl,?_⟩) hHeld ?_ ?_
       rotate_left
       ·rintro w' ⟨s0,s1,s2,s3⟩
        go_simp
        with_reducible rfl
       rotate_left
       ·simp only [Act.put,List.setIfInBounds_toArray,List.set_cons_zero,List.set_cons_succ,i64_w,i32_w]
        rfl
       refine pure_ (i:=5) (N:=some 11) (v:=?_) (a':=?_) #[true,true,true,true,true,true,true,false,false,false,false] rfl rfl (any_of HT_.out (by kernel_rfl)) (fun _ _ _ h=>h) (Or.inl ⟨by rfl,?_⟩) ?_ ?_
       rotate_left
       ·intro w'
        go_simp
        with_reducible rfl
       rotate_left
       ·simp only [Act.put,List.setIfInBounds_toArray,List.set_cons_zero,List.set_cons_succ,i64_w,i32_w]
        rfl
       refine take_ (i:=7) (N:=some 13) (v:=?_) (a':=?_) #[true,true,true,true,true,true,true,true,false,false,false] rfl rfl (take_ofW HT_.out HW_.out (by kernel_rfl)) (fun _ _ _ h=>h) (Or.inl ⟨by rfl,?_⟩) hHeld ?_ ?_
       rotate_left
       ·rintro w' ⟨s0,s1,s2,s3⟩
        go_simp
        with_reducible rfl
       rotate_left
       ·simp only [Act.put,List.setIfInBounds_toArray,List.set_cons_zero,List.set_cons_succ,i64_w,i32_w]
        rfl
       refine one_ (i:=8) (N:=some 14) #[true,true,true,true,true,true,true,true,true,false,false] rfl rfl (one_of HT_.out (by kernel_rfl)) (by decide) (fun K hK=>?_)
       refine goes_ Tryd.func44 (by kernel_rfl) rfl #[.int .i64 a0_1] (by rfl) rfl rfl (by (try simp only [List.map_toArray,List.map_cons,List.map_nil]);first|done|rfl|(simp only [List.length_drop,List.length_take];rfl)) ?_
       with_reducible refine (spec_l4decimal.calls a0_1 t124 _ A6.out).mono ?_
       rintro e w30 ⟨rfl,hb⟩
       have HS3_:=(hb.cell (World.block_lt_of_cell? _ _ (hHeld.2.2.2))).trans (hHeld.2.2.2)
       refine ⟨_,rfl,?_⟩
       have n0_:=Aside0.mk (Kd.R_below (by (with_reducible repeat (first|apply Kd.R_alloc|apply Kd.R_drewN|apply Kd.R_drew));exact HO122.out) hb)
       have n1_:=Aside0.mk (blk_below (g:=gb119) (o:=.cells #[.int .i64 a0_0,.int .i64 a0_1,.int .i64 a0_2] 52 (0,0)) (by (with_reducible repeat (first|refine blk_drewN ?_ _|refine blk_drew ?_|refine blk_alloc ?_ _));exact BK119.out) hb)
       have n2_:=Aside0.mk (below_step (by repeat (first|(with_reducible first|exact HB.out|apply below_alloc|apply pw_below_drewN|apply below_drew1|refine below_set ?_ GE119.out)|exact HB.out)) hb)
       clear HO122
       clear BK119
       clear HB
       have HO122:=n0_
       have BK119:=n1_
       have HB:=n2_
       clear n0_ n1_ n2_
       (try clear hb)
       (try clear hb2)
       (try clear hk)
       (try clear hi)
       refine hK.out _ _ ⟨(blk_cell BK119.out 0).trans rfl,(blk_cell BK119.out 1).trans rfl,(blk_cell BK119.out 2).trans rfl,HS3_⟩ (fun hHeld=>?_)
       clear hK K
       refine norm_ (a':=?_) ?_ ?_
       rotate_left
       ·show Act.put _ (some 14) _=_
        simp only [Act.put,List.setIfInBounds_toArray,List.set_cons_zero,List.set_cons_succ,i64_w,i32_w]
        rfl
       refine pure_ (i:=9) (N:=some 15) (v:=?_) (a':=?_) #[true,true,true,true,true,true,true,true,true,true,false] rfl rfl (any_of HT_.out (by kernel_rfl)) (fun _ _ _ h=>h) (Or.inl ⟨by rfl,?_⟩) ?_ ?_
       rotate_left
       ·intro w'
        go_simp
        with_reducible rfl
       rotate_left
       ·simp only [Act.put,List.setIfInBounds_toArray,List.set_cons_zero,List.set_cons_succ,i64_w,i32_w]
        rfl
       refine pure_ (i:=10) (N:=some 4) (v:=?_) (a':=?_) #[true,true,true,true,true,true,true,true,true,true,true] rfl rfl (any_of HT_.out (by kernel_rfl)) (fun _ _ _ h=>h) (Or.inl ⟨by rfl,?_⟩) ?_ ?_
       rotate_left
       ·intro w'
        go_simp
        with_reducible rfl
       rotate_left
       ·simp only [Act.put,List.setIfInBounds_toArray,List.set_cons_zero,List.set_cons_succ,i64_w,i32_w]
        rfl
       refine done_ (done_of HT_.out (by kernel_rfl)) ?_
       have hcz31_0:w30.cell? ⟨gb119,0,none⟩=some (.int .i64 a0_0):=(blk_cell BK119.out 0).trans rfl
       have hcz31_1:w30.cell? ⟨gb119,1,none⟩=some (.int .i64 a0_1):=(blk_cell BK119.out 1).trans rfl
       have hcz31_2:w30.cell? ⟨gb119,2,none⟩=some (.int .i64 a0_2):=(blk_cell BK119.out 2).trans rfl
       have hfz31_0:=blk_frozen BK119.out 0
       have hfz31_1:=blk_frozen BK119.out 1
       have hfz31_2:=blk_frozen BK119.out 2
       try go_wp2
       go_ret
       exact ⟨by first|rfl|(simp [errW_none,errW_some] <;> rfl)|(simp [*,errW_none,errW_some] <;> rfl),by repeat (first|(with_reducible first|exact HB.out|apply below_alloc|apply pw_below_drewN|apply below_drew1|refine below_set ?_ GE119.out)|exact HB.out)⟩
      rw [if_neg c25] at H
      exact absurd H (by simp)
     rw [if_neg c24] at H
     have c24b0:decide (a0_2<0)=false:=decide_eq_false c24
     clear c24
     obtain rfl:=Option.some.inj H
     go_enter Tryd.func27,Tryd.ntmps27
     try go_wp2_with (first|((with_reducible refine gate_dst (N:=1) rfl ?_);refine box_event ?hg (N:=1) ?hd (cs:=#[.int .i64 a0_0,.int .i64 a0_1,.int .i64 a0_2]) (t:=52) ?hr ?_;(case hd=>rfl);(case hg=>rfl);(case hr=>first|(go_simp;done)|(go_simp;rfl));intro gb119 hg w32 hbox hb;have n0_:=Aside0.mk (below_step (by repeat (first|(with_reducible first|exact HB.out|apply below_alloc|apply pw_below_drewN|apply below_drew1)|exact HB.out)) hb);have n1_:=Aside0.mk (hbox);have n2_:=Aside0.mk ((by rw [hg];exact (below_size (by repeat (first|(with_reducible first|exact HB.out|apply below_alloc|apply pw_below_drewN|apply below_drew1)|exact HB.out))):w.heap.size≤gb119));have n3_:=Aside0.mk ((by rw [hg];exact (below_size (by repeat (first|(with_reducible first|exact HB.out|apply below_alloc|apply pw_below_drewN|apply below_drew1)|exact HB.out))):w.heap.size≤gb119));clear HB;have HB:=n0_;have BK119:=n1_;have GW119:=n2_;have GE119:=n3_;clear n0_ n1_ n2_ n3_;clear hb hbox hg)|((with_reducible refine gate_callee (f:=52) rfl ?_);refine goesL_ (some 5) rfl rfl Tryd.func52 (by kernel_rfl) rfl #[] rfl (by (try simp only [List.map_toArray,List.map_cons,List.map_nil]);first|done|rfl|(simp only [List.length_drop,List.length_take];rfl)) ?_;(with_reducible refine (spec_l4words.calls  t120 _ A2.out).mono ?_);rintro e w33 ⟨v121,rfl,ho0,hb⟩;refine ⟨_,rfl,?_⟩;have n0_:=Aside0.mk (Kd.R_lower ho0 (below_size (by repeat (first|(with_reducible first|exact HB.out|apply below_alloc|apply pw_below_drewN|apply below_drew1|refine below_set ?_ GE119.out)|exact HB.out))));have n1_:=Aside0.mk (blk_below (g:=gb119) (o:=.cells #[.int .i64 a0_0,.int .i64 a0_1,.int .i64 a0_2] 52 (0,0)) (by (with_reducible repeat (first|refine blk_drewN ?_ _|refine blk_drew ?_|refine blk_alloc ?_ _));exact BK119.out) hb);have n2_:=Aside0.mk (below_step (by repeat (first|(with_reducible first|exact HB.out|apply below_alloc|apply pw_below_drewN|apply below_drew1|refine below_set ?_ GE119.out)|exact HB.out)) hb);clear BK119;clear HB;have HO122:=n0_;have BK119:=n1_;have HB:=n2_;clear n0_ n1_ n2_;(try clear hb);(try clear hb2);(try clear hk);(try clear hi);(try clear ho0)))
     have n0_:=Aside0.mk (Kd.R_drew HO122.out)
     have n1_:=Aside0.mk (blk_drew BK119.out)
     have n2_:=Aside0.mk (below_drew1 HB.out)
     clear HO122
     clear BK119
     clear HB
     have HO122:=n0_
     have BK119:=n1_
     have HB:=n2_
     clear n0_ n1_ n2_
     obtain ⟨Ao35,co35,eo35⟩:=Kd.R_slice HO122.out
     (first|subst eo35|(injection eo35 with f1_ f2_ f3_;have f4_:=f1_.symm;have f5_:=f3_.symm;clear f1_ f2_ f3_;subst f4_;subst f5_))
     have p123:0≤(a0_0:Int):=of_decide_eq_true (by first|(with_reducible assumption)|assumption)
     have q123:a0_0<(t120.length:Int):=of_decide_eq_true (by first|(with_reducible assumption)|assumption)
     obtain ⟨ad123,e123,hx123_0⟩:=Kd.at_string (Kd.R_reads' HO122.out).2.2 a0_0 p123 q123
     cases e123
     replace p123:=eq_true p123
     replace q123:=eq_true q123
     refine start_ (n:=11) (S:=fun w'=>w'.cell? ⟨gb119,0,none⟩=some (.int .i64 a0_0)∧w'.cell? ⟨gb119,1,none⟩=some (.int .i64 a0_1)∧w'.cell? ⟨gb119,2,none⟩=some (.int .i64 a0_2)∧w'.cell? (ad123.add (a0_0).toNat)=some (.string (rdOf ByteArray.empty t120 a0_0))) (ds:=[]) #[false,false,false,false,false,false,false,false,false,false,false] (by kernel_rfl) rfl rfl ⟨(blk_cell BK119.out 0).trans rfl,(blk_cell BK119.out 1).trans rfl,(blk_cell BK119.out 2).trans rfl,hx123_0⟩ (fun hHeld=>?_);refine with_tabW spec_l4line.tab2 spec_l4line.bits2 (fun HT_ HW_=>?_)
     generalize w33.drew=w34 at HO122 BK119 HB hx123_0 hHeld ⊢
     refine pure_ (i:=0) (N:=some 6) (v:=?_) (a':=?_) #[true,false,false,false,false,false,false,false,false,false,false] rfl rfl (any_of HT_.out (by kernel_rfl)) (fun _ _ _ h=>h) (Or.inl ⟨by rfl,?_⟩) ?_ ?_
     rotate_left
     ·intro w'
      go_simp
      with_reducible rfl
     rotate_left
     ·simp only [Act.put,List.setIfInBounds_toArray,List.set_cons_zero,List.set_cons_succ,i64_w,i32_w]
      rfl
     refine pure_ (i:=1) (N:=some 7) (v:=?_) (a':=?_) #[true,true,false,false,false,false,false,false,false,false,false] rfl rfl (any_of HT_.out (by kernel_rfl)) (fun _ _ _ h=>h) (Or.inl ⟨by rfl,?_⟩) ?_ ?_
     rotate_left
     ·intro w'
      go_simp
      with_reducible rfl
     rotate_left
     ·simp only [Act.put,List.setIfInBounds_toArray,List.set_cons_zero,List.set_cons_succ,i64_w,i32_w]
      rfl
     refine pure_ (i:=6) (N:=some 12) (v:=?_) (a':=?_) #[true,true,false,false,false,false,true,false,false,false,false] rfl rfl (any_of HT_.out (by kernel_rfl)) (fun _ _ _ h=>h) (Or.inl ⟨by rfl,?_⟩) ?_ ?_
     rotate_left
     ·intro w'
      go_simp
      with_reducible rfl
     rotate_left
     ·simp only [Act.put,List.setIfInBounds_toArray,List.set_cons_zero,List.set_cons_succ,i64_w,i32_w]
      rfl
     refine take_ (i:=2) (N:=some 8) (v:=?_) (a':=?_) #[true,true,true,false,false,false,true,false,false,false,false] rfl rfl (take_ofW HT_.out HW_.out (by kernel_rfl)) (fun _ _ _ h=>h) (Or.inl ⟨by rfl,?_⟩) hHeld ?_ ?_
     rotate_left
     ·rintro w' ⟨s0,s1,s2,s3⟩
      go_simp
      with_reducible rfl
     rotate_left
     ·simp only [Act.put,List.setIfInBounds_toArray,List.set_cons_zero,List.set_cons_succ,i64_w,i32_w]
      rfl
     refine pure_ (i:=3) (N:=some 9) (v:=?_) (a':=?_) #[true,true,true,true,false,false,true,false,false,false,false] rfl rfl (any_of HT_.out (by kernel_rfl)) (fun _ _ _ h=>h) (Or.inl ⟨by rfl,?_⟩) ?_ ?_
     rotate_left
     ·intro w'
      go_simp
      with_reducible rfl
     rotate_left
     ·simp only [Act.put,List.setIfInBounds_toArray,List.set_cons_zero,List.set_cons_succ,i64_w,i32_w]
      rfl
     refine take_ (i:=4) (N:=some 10) (v:=?_) (a':=?_) #[true,true,true,true,true,false,true,false,false,false,false] rfl rfl (take_ofW HT_.out HW_.out (by kernel_rfl)) (fun _ _ _ h=>h) (Or.inl ⟨by rfl,?_⟩) hHeld ?_ ?_
     rotate_left
     ·rintro w' ⟨s0,s1,s2,s3⟩
      go_simp
      with_reducible rfl
     rotate_left
     ·simp only [Act.put,List.setIfInBounds_toArray,List.set_cons_zero,List.set_cons_succ,i64_w,i32_w]
      rfl
     refine pure_ (i:=5) (N:=some 11) (v:=?_) (a':=?_) #[true,true,true,true,true,true,true,false,false,false,false] rfl rfl (any_of HT_.out (by kernel_rfl)) (fun _ _ _ h=>h) (Or.inl ⟨by rfl,?_⟩) ?_ ?_
     rotate_left
     ·intro w'
      go_simp
      with_reducible rfl
     rotate_left
     ·simp only [Act.put,List.setIfInBounds_toArray,List.set_cons_zero,List.set_cons_succ,i64_w,i32_w]
      rfl
     refine take_ (i:=7) (N:=some 13) (v:=?_) (a':=?_) #[true,true,true,true,true,true,true,true,false,false,false] rfl rfl (take_ofW HT_.out HW_.out (by kernel_rfl)) (fun _ _ _ h=>h) (Or.inl ⟨by rfl,?_⟩) hHeld ?_ ?_
     rotate_left
     ·rintro w' ⟨s0,s1,s2,s3⟩
      go_simp
      with_reducible rfl
     rotate_left
     ·simp only [Act.put,List.setIfInBounds_toArray,List.set_cons_zero,List.set_cons_succ,i64_w,i32_w]
      rfl
     refine one_ (i:=8) (N:=some 14) #[true,true,true,true,true,true,true,true,true,false,false] rfl rfl (one_of HT_.out (by kernel_rfl)) (by decide) (fun K hK=>?_)
     refine goes_ Tryd.func44 (by kernel_rfl) rfl #[.int .i64 a0_1] (by rfl) rfl rfl (by (try simp only [List.map_toArray,List.map_cons,List.map_nil]);first|done|rfl|(simp only [List.length_drop,List.length_take];rfl)) ?_
     with_reducible refine (spec_l4decimal.calls a0_1 t124 _ A6.out).mono ?_
     rintro e w36 ⟨rfl,hb⟩
     have HS3_:=(hb.cell (World.block_lt_of_cell? _ _ (hHeld.2.2.2))).trans (hHeld.2.2.2)
     refine ⟨_,rfl,?_⟩
     have n0_:=Aside0.mk (Kd.R_below (by (with_reducible repeat (first|apply Kd.R_alloc|apply Kd.R_drewN|apply Kd.R_drew));exact HO122.out) hb)
     have n1_:=Aside0.mk (blk_below (g:=gb119) (o:=.cells #[.int .i64 a0_0,.int .i64 a0_1,.int .i64 a0_2] 52 (0,0)) (by (with_reducible repeat (first|refine blk_drewN ?_ _|refine blk_drew ?_|refine blk_alloc ?_ _));exact BK119.out) hb)
     have n2_:=Aside0.mk (below_step (by repeat (first|(with_reducible first|exact HB.out|apply below_alloc|apply pw_below_drewN|apply below_drew1|refine below_set ?_ GE119.out)|exact HB.out)) hb)
     clear HO122
     clear BK119
     clear HB
     have HO122:=n0_
     have BK119:=n1_
     have HB:=n2_
     clear n0_ n1_ n2_
     (try clear hb)
     (try clear hb2)
     (try clear hk)
     (try clear hi)
     refine hK.out _ _ ⟨(blk_cell BK119.out 0).trans rfl,(blk_cell BK119.out 1).trans rfl,(blk_cell BK119.out 2).trans rfl,HS3_⟩ (fun hHeld=>?_)
     clear hK K
     refine norm_ (a':=?_) ?_ ?_
     rotate_left
     ·show Act.put _ (some 14) _=_
      simp only [Act.put,List.setIfInBounds_toArray,List.set_cons_zero,List.set_cons_succ,i64_w,i32_w]
      rfl
     refine pure_ (i:=9) (N:=some 15) (v:=?_) (a':=?_) #[true,true,true,true,true,true,true,true,true,true,false] rfl rfl (any_of HT_.out (by kernel_rfl)) (fun _ _ _ h=>h) (Or.inl ⟨by rfl,?_⟩) ?_ ?_
     rotate_left
     ·intro w'
      go_simp
      with_reducible rfl
     rotate_left
     ·simp only [Act.put,List.setIfInBounds_toArray,List.set_cons_zero,List.set_cons_succ,i64_w,i32_w]
      rfl
     refine pure_ (i:=10) (N:=some 4) (v:=?_) (a':=?_) #[true,true,true,true,true,true,true,true,true,true,true] rfl rfl (any_of HT_.out (by kernel_rfl)) (fun _ _ _ h=>h) (Or.inl ⟨by rfl,?_⟩) ?_ ?_
     rotate_left
     ·intro w'
      go_simp
      with_reducible rfl
     rotate_left
     ·simp only [Act.put,List.setIfInBounds_toArray,List.set_cons_zero,List.set_cons_succ,i64_w,i32_w]
      rfl
     refine done_ (done_of HT_.out (by kernel_rfl)) ?_
     have hcz37_0:w36.cell? ⟨gb119,0,none⟩=some (.int .i64 a0_0):=(blk_cell BK119.out 0).trans rfl
     have hcz37_1:w36.cell? ⟨gb119,1,none⟩=some (.int .i64 a0_1):=(blk_cell BK119.out 1).trans rfl
     have hcz37_2:w36.cell? ⟨gb119,2,none⟩=some (.int .i64 a0_2):=(blk_cell BK119.out 2).trans rfl
     have hfz37_0:=blk_frozen BK119.out 0
     have hfz37_1:=blk_frozen BK119.out 1
     have hfz37_2:=blk_frozen BK119.out 2
     try go_wp2
     go_ret
     exact ⟨by first|rfl|(simp [errW_none,errW_some] <;> rfl)|(simp [*,errW_none,errW_some] <;> rfl),by repeat (first|(with_reducible first|exact HB.out|apply below_alloc|apply pw_below_drewN|apply below_drew1|refine below_set ?_ GE119.out)|exact HB.out)⟩
    rw [if_neg c7] at H
    exact absurd H (by simp)
   rw [if_neg c5] at H
   exact absurd H (by simp)
  rw [if_neg c4] at H
  exact absurd H (by simp)
 rw [if_neg c3] at H
 exact absurd H (by simp)
end Go.Proofs.YtpdnabhpkdchjaaDoor.P
namespace Go.Proofs.YtpdnabhpkdchjaaDoor.P
open Go.RowKit Go.Proofs.YtpdnabhpkdchjaaDoorW.PrintWords Go.Proofs.YtpdnabhpkdchjaaDoorW.PrintLast Go.Proofs.YtpdnabhpkdchjaaDoorW.PrintMore
attribute [local go_sem] max2_int min2_int max_two min_two max_three min_three max_four min_four
set_option linter.unusedVariables false
set_option linter.unusedSimpArgs false
def spec_WriteEvents.l0:Nat→List Int→List (S52)→Int→Int→Int→List (S98)→Option (ByteArray)
 | 0,_,_,_,_,_,_=>none
 | k+1,x5,x11,x12,x13,x126000,x126001=>if x13<x12 then (if 0≤x13 then (if x13<(x11.length:Int) then ((spec_EventOk.f k x126000 x126001 ((rd_T52 x11 x13).f0) ((rd_T52 x11 x13).f1) ((rd_T52 x11 x13).f2)).bind fun t128=>(if t128=true then ((spec_l4line.f ((rd_T52 x11 x13).f0) ((rd_T52 x11 x13).f1) ((rd_T52 x11 x13).f2)).bind fun t129=>(if t129.size+1≤9223372036854775807 then (if x5.length+(t129 ++ (⟨#[10]⟩:ByteArray)).size<140737488355328 then (spec_WriteEvents.l0 k (x5 ++ bytesOf (t129 ++ (⟨#[10]⟩:ByteArray))) x11 x12 (wrap64 (x13+1)) x126000 x126001) else (none)) else (none))) else (some (⟨#[]⟩:ByteArray)))) else (none)) else (none)) else (if (x5.length:Int) > 20000 then (some (⟨#[]⟩:ByteArray)) else (some (strOfNums x5)))
def spec_WriteEvents.f (k:Nat) (a0_0:Int) (l0_1:List (S98)) (l1:List (S52)):Option (ByteArray):=if (l1.length:Int) > 2000 then (some (⟨#[]⟩:ByteArray)) else (spec_WriteEvents.l0 k ([]:List Int) l1 (l1.length:Int) 0 a0_0 l0_1)
set_option maxHeartbeats 8000000 in
set_option maxRecDepth 100000 in
theorem spec_WriteEvents.calls (k:Nat) (a0_0:Int) (A0_1:Option Addr) (c0_1:Nat) (l0_1:List (S98)) (A1:Option Addr) (c1:Nat) (l1:List (S52)) (r:ByteArray) (w:World) (hr0_1:Kd.C k98 w A0_1 l0_1.length l0_1) (hc0_1:l0_1.length≤c0_1) (hr1:Kd.C k52 w A1 l1.length l1) (hc1:l1.length≤c1) (h:spec_WriteEvents.f k a0_0 l0_1 l1=some r) :
  Calls Tryd.prog 9 #[.agg #[.int .i64 a0_0,.slice A0_1 l0_1.length c0_1],.slice A1 l1.length c1] w fun e w'=>e=.returned (.string r)∧Below w.heap.size w w':=by
 have hu31:=Tryd.underlying31
 have hu52:=Tryd.underlying52
 have HR0_1:=Aside0.mk hr0_1
 have HC0_1:=Aside0.mk hc0_1
 clear hr0_1 hc0_1
 have HR1:=Aside0.mk hr1
 have HC1:=Aside0.mk hc1
 clear hr1 hc1
 have HB:=Aside0.mk (Below.refl w.heap.size w)
 have H:(if (l1.length:Int) > 2000 then (some (⟨#[]⟩:ByteArray)) else (spec_WriteEvents.l0 k ([]:List Int) l1 (l1.length:Int) 0 a0_0 l0_1))=some r:=h
 clear h
 by_cases c3:(l1.length:Int) > 2000
 ·rw [if_pos c3] at H
  have c3b0:decide (2000<(l1.length:Int))=true:=decide_eq_true c3
  have c3b1:decide (2000<l1.length)=true:=decide_eq_true (by omega)
  clear c3
  obtain rfl:=Option.some.inj H
  go_enter Tryd.func9,Tryd.ntmps9
  go_wp2_with (first|((with_reducible refine gate_dst (N:=2) rfl ?_);refine box_event ?hg (N:=2) ?hd (cs:=#[.int .i64 a0_0,.slice A0_1 l0_1.length c0_1]) (t:=31) ?hr ?_;(case hd=>rfl);(case hg=>rfl);(case hr=>first|(go_simp;done)|(go_simp;rfl));intro gb125 hg w4 hbox hb;have n0_:=Aside0.mk (below_step (by repeat (first|(with_reducible first|exact HB.out|apply below_alloc|apply pw_below_drewN|apply below_drew1)|exact HB.out)) hb);have n1_:=Aside0.mk (hbox);have n2_:=Aside0.mk ((by rw [hg];exact (below_size (by repeat (first|(with_reducible first|exact HB.out|apply below_alloc|apply pw_below_drewN|apply below_drew1)|exact HB.out))):w.heap.size≤gb125));have n3_:=Aside0.mk ((by rw [hg];exact (below_size (by repeat (first|(with_reducible first|exact HB.out|apply below_alloc|apply pw_below_drewN|apply below_drew1)|exact HB.out))):w.heap.size≤gb125));clear HB;have HB:=n0_;have BK125:=n1_;have GW125:=n2_;have GE125:=n3_;clear n0_ n1_ n2_ n3_;clear hb hbox hg))
  go_ret
  exact ⟨by first|rfl|(simp [errW_none,errW_some] <;> rfl)|(simp [*,errW_none,errW_some] <;> rfl),by repeat (first|(with_reducible first|exact HB.out|apply below_alloc|apply pw_below_drewN|apply below_drew1|refine below_set ?_ GE125.out)|exact HB.out)⟩
 rw [if_neg c3] at H
 have c3b0:decide (2000<(l1.length:Int))=false:=decide_eq_false c3
 have c3b1:decide (2000<l1.length)=false:=decide_eq_false (by omega)
 clear c3
 have H':=Aside0.mk H
 clear H
 go_enter Tryd.func9,Tryd.ntmps9
 go_wp2_with (first|((with_reducible refine gate_dst (N:=2) rfl ?_);refine box_event ?hg (N:=2) ?hd (cs:=#[.int .i64 a0_0,.slice A0_1 l0_1.length c0_1]) (t:=31) ?hr ?_;(case hd=>rfl);(case hg=>rfl);(case hr=>first|(go_simp;done)|(go_simp;rfl));intro gb125 hg w5 hbox hb;have n0_:=Aside0.mk (below_step (by repeat (first|(with_reducible first|exact HB.out|apply below_alloc|apply pw_below_drewN|apply below_drew1)|exact HB.out)) hb);have n1_:=Aside0.mk (hbox);have n2_:=Aside0.mk ((by rw [hg];exact (below_size (by repeat (first|(with_reducible first|exact HB.out|apply below_alloc|apply pw_below_drewN|apply below_drew1)|exact HB.out))):w.heap.size≤gb125));have n3_:=Aside0.mk ((by rw [hg];exact (below_size (by repeat (first|(with_reducible first|exact HB.out|apply below_alloc|apply pw_below_drewN|apply below_drew1)|exact HB.out))):w.heap.size≤gb125));clear HB;have HB:=n0_;have BK125:=n1_;have GW125:=n2_;have GE125:=n3_;clear n0_ n1_ n2_ n3_;clear hb hbox hg))
 go_loopg [5,13] k (fun kq v5 v13 w'=>∃ (x5_1:List Int) (x13_1:Int),v13=.int .i64 x13_1∧Aside0 (spec_WriteEvents.l0 kq x5_1 l1 (l1.length:Int) x13_1 a0_0 l0_1=some r)∧Aside0 (kq≤k)∧Aside0 (Kd.R (Kd.int .u8) 5 w' w.heap.size (fun _=>True) v5 x5_1)∧Aside0 (w'.heap[gb125]?=some (.cells #[.int .i64 a0_0,(.slice A0_1 l0_1.length c0_1)] 31 (0,0)))∧Aside0 (Below w.heap.size w w'))
 case atStart=>exact ⟨(([]:List Int)),(0),(by first|rfl|(simp;done)|(simp [*];done)),H',⟨Nat.le_refl _⟩,⟨by first|exact Kd.R_nil _ _ _ _ _|exact Kd.N_nil _ _ _ _ _|exact Kd.V_nil _ _ _ _ _|exact Kd.Q_nil _ _ _ _ _|exact Kd.S_nil _ _ _ _ _⟩,⟨by (with_reducible repeat (first|refine blk_drewN ?_ _|refine blk_drew ?_|refine blk_alloc ?_ _));exact BK125.out⟩,⟨by repeat (first|(with_reducible first|exact HB.out|apply below_alloc|apply pw_below_drewN|apply below_drew1|refine below_set ?_ GE125.out)|exact HB.out)⟩⟩
 case round =>
  clear H'
  try clear c1
  try clear p2
  try clear c3
  try clear c3b0
  try clear c3b1
  obtain ⟨x5_1,x13_1,rfl,HA,HK1,HO_5,BK125,HB⟩:=hrel
  cases gk with
  | zero=>exact absurd HA.out (by simp [spec_WriteEvents.l0])
  | succ k1 =>
   have H:=HA.out
   clear HA
   simp only [spec_WriteEvents.l0] at H
   by_cases c6:x13_1<(l1.length:Int)
   ·rw [if_pos c6] at H
    have c6b0:decide (x13_1<(l1.length:Int))=true:=decide_eq_true c6
    clear c6
    by_cases c7:0≤x13_1
    ·rw [if_pos c7] at H
     have c7b0:decide (0≤x13_1)=true:=decide_eq_true c7
     clear c7
     by_cases c8:x13_1<(l1.length:Int)
     ·rw [if_pos c8] at H
      have c8b0:decide (x13_1<(l1.length:Int))=true:=decide_eq_true c8
      clear c8
      replace H:=Option.bind_eq_some_iff.mp H
      obtain ⟨t128,A90,H⟩:=H
      replace H:(if t128=true then ((spec_l4line.f ((rd_T52 l1 x13_1).f0) ((rd_T52 l1 x13_1).f1) ((rd_T52 l1 x13_1).f2)).bind fun t129=>(if t129.size+1≤9223372036854775807 then (if x5_1.length+(t129 ++ (⟨#[10]⟩:ByteArray)).size<140737488355328 then (spec_WriteEvents.l0 k1 (x5_1 ++ bytesOf (t129 ++ (⟨#[10]⟩:ByteArray))) l1 (l1.length:Int) (wrap64 (x13_1+1)) a0_0 l0_1) else (none)) else (none))) else (some (⟨#[]⟩:ByteArray)))=some r:=H
      have A9:=Aside0.mk A90
      clear A90
      by_cases c10:t128=true
      ·subst c10
       have H1:((spec_l4line.f ((rd_T52 l1 x13_1).f0) ((rd_T52 l1 x13_1).f1) ((rd_T52 l1 x13_1).f2)).bind fun t129=>(if t129.size+1≤9223372036854775807 then (if x5_1.length+(t129 ++ (⟨#[10]⟩:ByteArray)).size<140737488355328 then (spec_WriteEvents.l0 k1 (x5_1 ++ bytesOf (t129 ++ (⟨#[10]⟩:ByteArray))) l1 (l1.length:Int) (wrap64 (x13_1+1)) a0_0 l0_1) else (none)) else (none)))=some r:=by rw [if_pos rfl] at H;exact H
       clear H
       have H:=H1
       clear H1
       replace H:=Option.bind_eq_some_iff.mp H
       obtain ⟨t129,A110,H⟩:=H
       replace H:(if t129.size+1≤9223372036854775807 then (if x5_1.length+(t129 ++ (⟨#[10]⟩:ByteArray)).size<140737488355328 then (spec_WriteEvents.l0 k1 (x5_1 ++ bytesOf (t129 ++ (⟨#[10]⟩:ByteArray))) l1 (l1.length:Int) (wrap64 (x13_1+1)) a0_0 l0_1) else (none)) else (none))=some r:=H
       have A11:=Aside0.mk A110
       clear A110
       by_cases c12:t129.size+1≤9223372036854775807
       ·rw [if_pos c12] at H
        have c12b0:=eq_true c12
        have c12b1:decide (t129.size+1≤9223372036854775807)=true:=decide_eq_true c12
        try have c12b2:(9223372036854775807<t129.size+1)=False:=eq_false (Nat.not_lt.2 c12)
        by_cases c13:x5_1.length+(t129 ++ (⟨#[10]⟩:ByteArray)).size<140737488355328
        ·rw [if_pos c13] at H
         have LMc13:=Aside0.mk c13
         clear c13
         obtain ⟨y130,hy130⟩:∃ y_:List Int,y_=(x5_1 ++ bytesOf (t129 ++ (⟨#[10]⟩:ByteArray))):=⟨_,rfl⟩
         replace H:(spec_WriteEvents.l0 k1 y130 l1 (l1.length:Int) (wrap64 (x13_1+1)) a0_0 l0_1)=some r:=by first|(rw [hy130];with_reducible exact H)|(have H2_:=(Option.bind_some _ _).symm.trans H;rw [hy130];with_reducible exact H2_)|(have H2_:=(Option.bind_some _ _).symm.trans H;with_reducible exact H2_)|with_reducible exact H|(rw [hy130];exact H)|exact H
         have Ny130:=Aside0.mk hy130
         clear hy130
         have H':=Aside0.mk H
         clear H
         have p126:0≤(x13_1:Int):=of_decide_eq_true (by first|(with_reducible assumption)|assumption)
         have q126:x13_1<(l1.length:Int):=of_decide_eq_true (by first|(with_reducible assumption)|assumption)
         obtain ⟨ad126,e126,hx126_0,hx126_1,hx126_2⟩:=at_T52 HR1.out x13_1 p126 q126
         cases e126
         replace hx126_0:=(HB.out.cell (World.block_lt_of_cell? w _ hx126_0)).trans hx126_0
         replace hx126_1:=(HB.out.cell (World.block_lt_of_cell? w _ hx126_1)).trans hx126_1
         replace hx126_2:=(HB.out.cell (World.block_lt_of_cell? w _ hx126_2)).trans hx126_2
         replace p126:=eq_true p126
         replace q126:=eq_true q126
         go_wp2_with (first|((with_reducible refine gate_dst (N:=7) rfl ?_);refine box_event ?hg (N:=7) ?hd (cs:=#[.int .i64 0,.int .i64 0,.int .i64 0]) (t:=52) ?hr ?_;(case hd=>rfl);(case hg=>rfl);(case hr=>first|(go_simp;done)|(go_simp;rfl));intro gb127 hg w14 hbox hb;have n0_:=Aside0.mk (Kd.R_below (by (with_reducible repeat (first|apply Kd.R_alloc|apply Kd.R_drewN|apply Kd.R_drew));exact HO_5.out) hb);have n1_:=Aside0.mk (blk_below (g:=gb125) (o:=.cells #[.int .i64 a0_0,.slice A0_1 l0_1.length c0_1] 31 (0,0)) (by (with_reducible repeat (first|refine blk_drewN ?_ _|refine blk_drew ?_|refine blk_alloc ?_ _));exact BK125.out) hb);have n2_:=Aside0.mk (below_step (by repeat (first|(with_reducible first|exact HB.out|apply below_alloc|apply pw_below_drewN|apply below_drew1|refine below_set ?_ GE125.out)|exact HB.out)) hb);have n3_:=Aside0.mk (hbox);have n4_:=Aside0.mk ((by rw [hg];exact (below_size (by repeat (first|(with_reducible first|exact HB.out|apply below_alloc|apply pw_below_drewN|apply below_drew1|refine below_set ?_ GE125.out)|exact HB.out))):w.heap.size≤gb127));have n5_:=Aside0.mk ((by rw [hg];exact (below_size (by repeat (first|(with_reducible first|exact HB.out|apply below_alloc|apply pw_below_drewN|apply below_drew1|refine below_set ?_ GE125.out)|exact HB.out))):w.heap.size≤gb127));have n6_:=Aside0.mk ((by rw [hg];exact Nat.ne_of_lt (blk_lt (g:=gb125) (o:=.cells #[.int .i64 a0_0,.slice A0_1 l0_1.length c0_1] 31 (0,0)) (by (with_reducible repeat (first|refine blk_drewN ?_ _|refine blk_drew ?_|refine blk_alloc ?_ _));exact BK125.out)):gb125 ≠ gb127));have n7_:=Aside0.mk ((by rw [hg];exact Nat.ne_of_gt (blk_lt (g:=gb125) (o:=.cells #[.int .i64 a0_0,.slice A0_1 l0_1.length c0_1] 31 (0,0)) (by (with_reducible repeat (first|refine blk_drewN ?_ _|refine blk_drew ?_|refine blk_alloc ?_ _));exact BK125.out)):gb127 ≠ gb125));clear HO_5;clear BK125;clear HB;have HO_5:=n0_;have BK125:=n1_;have HB:=n2_;have BK127:=n3_;have GW127:=n4_;have GE127:=n5_;have NB125_127:=n6_;have NB127_125:=n7_;clear n0_ n1_ n2_ n3_ n4_ n5_ n6_ n7_;clear hb hbox hg;have hnb15:=NB127_125.out;have hnc15:=NB125_127.out;have hcz16_0:w14.cell? ⟨gb127,0,none⟩=some (.int .i64 0):=(blk_cell BK127.out 0).trans rfl;have hcz16_1:w14.cell? ⟨gb127,1,none⟩=some (.int .i64 0):=(blk_cell BK127.out 1).trans rfl;have hcz16_2:w14.cell? ⟨gb127,2,none⟩=some (.int .i64 0):=(blk_cell BK127.out 2).trans rfl;have hfz16_0:=blk_frozen BK127.out 0;have hfz16_1:=blk_frozen BK127.out 1;have hfz16_2:=blk_frozen BK127.out 2;have hcz17_0:w14.cell? ⟨gb125,0,none⟩=some (.int .i64 a0_0):=(blk_cell BK125.out 0).trans rfl;have hcz17_1:w14.cell? ⟨gb125,1,none⟩=some (.slice A0_1 l0_1.length c0_1):=(blk_cell BK125.out 1).trans rfl;have hfz17_0:=blk_frozen BK125.out 0;have hfz17_1:=blk_frozen BK125.out 1)|((with_reducible refine gate_callee (f:=26) rfl ?_);refine goesL_ (some 19) rfl rfl Tryd.func26 (by kernel_rfl) rfl #[.agg #[.int .i64 a0_0,.slice A0_1 l0_1.length c0_1],.agg #[.int .i64 ((rd_T52 l1 x13_1).f0),.int .i64 ((rd_T52 l1 x13_1).f1),.int .i64 ((rd_T52 l1 x13_1).f2)]] rfl (by (try simp only [List.map_toArray,List.map_cons,List.map_nil]);first|done|rfl|(simp only [List.length_drop,List.length_take];rfl)) ?_;(with_reducible refine (spec_EventOk.calls k1 a0_0 _ _ l0_1 ((rd_T52 l1 x13_1).f0) ((rd_T52 l1 x13_1).f1) ((rd_T52 l1 x13_1).f2) true _ ?side1 ?side2 A9.out).mono ?_);(case side1=>exact Kd.C_below HR0_1.out (by repeat (first|(with_reducible first|exact HB.out|apply below_alloc|apply pw_below_drewN|apply below_drew1|refine below_set ?_ GE125.out|refine below_set ?_ GE127.out)|exact HB.out)));(case side2=>exact HC0_1.out);rintro e w18 ⟨rfl,hb⟩;refine ⟨_,rfl,?_⟩;have n0_:=Aside0.mk (Kd.R_below (by (with_reducible repeat (first|apply Kd.R_alloc|apply Kd.R_drewN|apply Kd.R_drew));exact (Kd.R_mono (Kd.R_far (p:=⟨gb127,2,none⟩) (Kd.R_far (p:=⟨gb127,1,none⟩) (Kd.R_far (p:=⟨gb127,0,none⟩) (Kd.R_types HO_5.out BK127.out (by decide)) (fun _ hk=>hk.2) (.int .i64 ((rd_T52 l1 x13_1).f0))) (fun _ hk=>hk.2) (.int .i64 ((rd_T52 l1 x13_1).f1))) (fun _ hk=>hk.2) (.int .i64 ((rd_T52 l1 x13_1).f2))) (fun _ h_=>h_.1))) hb);have n1_:=Aside0.mk (blk_below (g:=gb125) (o:=.cells #[.int .i64 a0_0,.slice A0_1 l0_1.length c0_1] 31 (0,0)) (by (with_reducible repeat (first|refine blk_drewN ?_ _|refine blk_drew ?_|refine blk_alloc ?_ _));refine blk_far ?_ NB125_127.out _;(with_reducible repeat (first|refine blk_drewN ?_ _|refine blk_drew ?_|refine blk_alloc ?_ _));refine blk_far ?_ NB125_127.out _;(with_reducible repeat (first|refine blk_drewN ?_ _|refine blk_drew ?_|refine blk_alloc ?_ _));refine blk_far ?_ NB125_127.out _;(with_reducible repeat (first|refine blk_drewN ?_ _|refine blk_drew ?_|refine blk_alloc ?_ _));exact BK125.out) hb);have n2_:=Aside0.mk (blk_below (g:=gb127) (o:=.cells #[.int .i64 ((rd_T52 l1 x13_1).f0),.int .i64 ((rd_T52 l1 x13_1).f1),.int .i64 ((rd_T52 l1 x13_1).f2)] 52 (0,0)) (by (with_reducible repeat (first|refine blk_drewN ?_ _|refine blk_drew ?_|refine blk_alloc ?_ _));refine blk_put (cs:=#[.int .i64 ((rd_T52 l1 x13_1).f0),.int .i64 ((rd_T52 l1 x13_1).f1),.int .i64 0]) ?_ 2 _ rfl;(with_reducible repeat (first|refine blk_drewN ?_ _|refine blk_drew ?_|refine blk_alloc ?_ _));refine blk_put (cs:=#[.int .i64 ((rd_T52 l1 x13_1).f0),.int .i64 0,.int .i64 0]) ?_ 1 _ rfl;(with_reducible repeat (first|refine blk_drewN ?_ _|refine blk_drew ?_|refine blk_alloc ?_ _));refine blk_put (cs:=#[.int .i64 0,.int .i64 0,.int .i64 0]) ?_ 0 _ rfl;(with_reducible repeat (first|refine blk_drewN ?_ _|refine blk_drew ?_|refine blk_alloc ?_ _));exact BK127.out) hb);have n3_:=Aside0.mk (below_step (by repeat (first|(with_reducible first|exact HB.out|apply below_alloc|apply pw_below_drewN|apply below_drew1|refine below_set ?_ GE125.out|refine below_set ?_ GE127.out)|exact HB.out)) hb);clear HO_5;clear BK125;clear BK127;clear HB;have HO_5:=n0_;have BK125:=n1_;have BK127:=n2_;have HB:=n3_;clear n0_ n1_ n2_ n3_;(try clear hb);(try clear hb2);(try clear hk);(try clear hi);have hcz19_0:w18.cell? ⟨gb127,0,none⟩=some (.int .i64 ((rd_T52 l1 x13_1).f0)):=(blk_cell BK127.out 0).trans rfl;have hcz19_1:w18.cell? ⟨gb127,1,none⟩=some (.int .i64 ((rd_T52 l1 x13_1).f1)):=(blk_cell BK127.out 1).trans rfl;have hcz19_2:w18.cell? ⟨gb127,2,none⟩=some (.int .i64 ((rd_T52 l1 x13_1).f2)):=(blk_cell BK127.out 2).trans rfl;have hfz19_0:=blk_frozen BK127.out 0;have hfz19_1:=blk_frozen BK127.out 1;have hfz19_2:=blk_frozen BK127.out 2)|((with_reducible refine gate_callee (f:=27) rfl ?_);refine goesL_ (some 23) rfl rfl Tryd.func27 (by kernel_rfl) rfl #[.agg #[.int .i64 ((rd_T52 l1 x13_1).f0),.int .i64 ((rd_T52 l1 x13_1).f1),.int .i64 ((rd_T52 l1 x13_1).f2)]] rfl (by (try simp only [List.map_toArray,List.map_cons,List.map_nil]);first|done|rfl|(simp only [List.length_drop,List.length_take];rfl)) ?_;(with_reducible refine (spec_l4line.calls ((rd_T52 l1 x13_1).f0) ((rd_T52 l1 x13_1).f1) ((rd_T52 l1 x13_1).f2) t129 _ A11.out).mono ?_);rintro e w20 ⟨rfl,hb⟩;refine ⟨_,rfl,?_⟩;have n0_:=Aside0.mk (Kd.R_below (by (with_reducible repeat (first|apply Kd.R_alloc|apply Kd.R_drewN|apply Kd.R_drew));exact HO_5.out) hb);have n1_:=Aside0.mk (blk_below (g:=gb125) (o:=.cells #[.int .i64 a0_0,.slice A0_1 l0_1.length c0_1] 31 (0,0)) (by (with_reducible repeat (first|refine blk_drewN ?_ _|refine blk_drew ?_|refine blk_alloc ?_ _));exact BK125.out) hb);have n2_:=Aside0.mk (blk_below (g:=gb127) (o:=.cells #[.int .i64 ((rd_T52 l1 x13_1).f0),.int .i64 ((rd_T52 l1 x13_1).f1),.int .i64 ((rd_T52 l1 x13_1).f2)] 52 (0,0)) (by (with_reducible repeat (first|refine blk_drewN ?_ _|refine blk_drew ?_|refine blk_alloc ?_ _));exact BK127.out) hb);have n3_:=Aside0.mk (below_step (by repeat (first|(with_reducible first|exact HB.out|apply below_alloc|apply pw_below_drewN|apply below_drew1|refine below_set ?_ GE125.out|refine below_set ?_ GE127.out)|exact HB.out)) hb);clear HO_5;clear BK125;clear BK127;clear HB;have HO_5:=n0_;have BK125:=n1_;have BK127:=n2_;have HB:=n3_;clear n0_ n1_ n2_ n3_;(try clear hb);(try clear hb2);(try clear hk);(try clear hi))|(at_builtin;refine print_append_str (w0:=w) w.heap.size rfl (.tmp 21) _ 46 9 5 rfl Tryd.underlying46 Tryd.underlying9 info5 u5 x5_1 (t129 ++ (⟨#[10]⟩:ByteArray)) rfl rfl ?aO ?aB ?aS ?aL ?_;(case aB=>exact (by repeat (first|(with_reducible first|exact HB.out|apply below_alloc|apply pw_below_drewN|apply below_drew1|refine below_set ?_ GE125.out|refine below_set ?_ GE127.out)|exact HB.out)));(case aO=>exact (Kd.own_of_R (by (with_reducible repeat (first|apply Kd.R_alloc|apply Kd.R_drewN|apply Kd.R_drew));exact HO_5.out)));(case aS=>exact (below_size (by repeat (first|(with_reducible first|exact HB.out|apply below_alloc|apply pw_below_drewN|apply below_drew1|refine below_set ?_ GE125.out|refine below_set ?_ GE127.out)|exact HB.out))));(case aL=>have:=LMc13.out;omega);intro v131 w21 ho0 hb hg;have ho:=Kd.R_of_own (h1:=fun _=>rfl) (ok:=fun _=>True) ho0 (fun _ _=>trivial);clear ho0;have hat:=True.intro;rw [← Ny130.out] at ho;change Kd.R (Kd.int .u8) 5 w21 w.heap.size (fun _=>True) v131 y130 at ho;have n0_:=Aside0.mk (blk_grown (g:=gb125) (o:=.cells #[.int .i64 a0_0,.slice A0_1 l0_1.length c0_1] 31 (0,0)) (by (with_reducible repeat (first|refine blk_drewN ?_ _|refine blk_drew ?_|refine blk_alloc ?_ _));exact BK125.out) hg (Kd.R_ne HO_5.out BK125.out (by decide)));have n1_:=Aside0.mk (blk_grown (g:=gb127) (o:=.cells #[.int .i64 ((rd_T52 l1 x13_1).f0),.int .i64 ((rd_T52 l1 x13_1).f1),.int .i64 ((rd_T52 l1 x13_1).f2)] 52 (0,0)) (by (with_reducible repeat (first|refine blk_drewN ?_ _|refine blk_drew ?_|refine blk_alloc ?_ _));exact BK127.out) hg (Kd.R_ne HO_5.out BK127.out (by decide)));have n2_:=Aside0.mk (hb);have n3_:=Aside0.mk (ho);clear BK125;clear BK127;clear HB;clear HO_5;have BK125:=n0_;have BK127:=n1_;have HB:=n2_;have HO132:=n3_;clear n0_ n1_ n2_ n3_;clear ho hb hg hat))
         go_roundg k1
         case measure=>have:=HK1.out;omega
         case rel=>exact ⟨(y130),(wrap64 (x13_1+1)),(by first|rfl|(simp;done)|(simp [*];done)),H',⟨by have:=HK1.out;omega⟩,⟨by (with_reducible repeat (first|apply Kd.R_alloc|apply Kd.R_drewN|apply Kd.R_drew));exact HO132.out⟩,⟨by (with_reducible repeat (first|refine blk_drewN ?_ _|refine blk_drew ?_|refine blk_alloc ?_ _));exact BK125.out⟩,⟨by repeat (first|(with_reducible first|exact HB.out|apply below_alloc|apply pw_below_drewN|apply below_drew1|refine below_set ?_ GE125.out|refine below_set ?_ GE127.out)|exact HB.out)⟩⟩
        rw [if_neg c13] at H
        exact absurd H (by simp)
       rw [if_neg c12] at H
       exact absurd H (by simp)
      replace c10:=Bool.eq_false_iff.mpr c10
      subst c10
      have H1:(some (⟨#[]⟩:ByteArray))=some r:=by rw [if_neg (show ¬ (false=true) by decide)] at H;exact H
      clear H
      have H:=H1
      clear H1
      obtain rfl:=Option.some.inj H
      have p126:0≤(x13_1:Int):=of_decide_eq_true (by first|(with_reducible assumption)|assumption)
      have q126:x13_1<(l1.length:Int):=of_decide_eq_true (by first|(with_reducible assumption)|assumption)
      obtain ⟨ad126,e126,hx126_0,hx126_1,hx126_2⟩:=at_T52 HR1.out x13_1 p126 q126
      cases e126
      replace hx126_0:=(HB.out.cell (World.block_lt_of_cell? w _ hx126_0)).trans hx126_0
      replace hx126_1:=(HB.out.cell (World.block_lt_of_cell? w _ hx126_1)).trans hx126_1
      replace hx126_2:=(HB.out.cell (World.block_lt_of_cell? w _ hx126_2)).trans hx126_2
      replace p126:=eq_true p126
      replace q126:=eq_true q126
      go_wp2_with (first|((with_reducible refine gate_dst (N:=7) rfl ?_);refine box_event ?hg (N:=7) ?hd (cs:=#[.int .i64 0,.int .i64 0,.int .i64 0]) (t:=52) ?hr ?_;(case hd=>rfl);(case hg=>rfl);(case hr=>first|(go_simp;done)|(go_simp;rfl));intro gb127 hg w22 hbox hb;have n0_:=Aside0.mk (Kd.R_below (by (with_reducible repeat (first|apply Kd.R_alloc|apply Kd.R_drewN|apply Kd.R_drew));exact HO_5.out) hb);have n1_:=Aside0.mk (blk_below (g:=gb125) (o:=.cells #[.int .i64 a0_0,.slice A0_1 l0_1.length c0_1] 31 (0,0)) (by (with_reducible repeat (first|refine blk_drewN ?_ _|refine blk_drew ?_|refine blk_alloc ?_ _));exact BK125.out) hb);have n2_:=Aside0.mk (below_step (by repeat (first|(with_reducible first|exact HB.out|apply below_alloc|apply pw_below_drewN|apply below_drew1|refine below_set ?_ GE125.out)|exact HB.out)) hb);have n3_:=Aside0.mk (hbox);have n4_:=Aside0.mk ((by rw [hg];exact (below_size (by repeat (first|(with_reducible first|exact HB.out|apply below_alloc|apply pw_below_drewN|apply below_drew1|refine below_set ?_ GE125.out)|exact HB.out))):w.heap.size≤gb127));have n5_:=Aside0.mk ((by rw [hg];exact (below_size (by repeat (first|(with_reducible first|exact HB.out|apply below_alloc|apply pw_below_drewN|apply below_drew1|refine below_set ?_ GE125.out)|exact HB.out))):w.heap.size≤gb127));have n6_:=Aside0.mk ((by rw [hg];exact Nat.ne_of_lt (blk_lt (g:=gb125) (o:=.cells #[.int .i64 a0_0,.slice A0_1 l0_1.length c0_1] 31 (0,0)) (by (with_reducible repeat (first|refine blk_drewN ?_ _|refine blk_drew ?_|refine blk_alloc ?_ _));exact BK125.out)):gb125 ≠ gb127));have n7_:=Aside0.mk ((by rw [hg];exact Nat.ne_of_gt (blk_lt (g:=gb125) (o:=.cells #[.int .i64 a0_0,.slice A0_1 l0_1.length c0_1] 31 (0,0)) (by (with_reducible repeat (first|refine blk_drewN ?_ _|refine blk_drew ?_|refine blk_alloc ?_ _));exact BK125.out)):gb127 ≠ gb125));clear HO_5;clear BK125;clear HB;have HO_5:=n0_;have BK125:=n1_;have HB:=n2_;have BK127:=n3_;have GW127:=n4_;have GE127:=n5_;have NB125_127:=n6_;have NB127_125:=n7_;clear n0_ n1_ n2_ n3_ n4_ n5_ n6_ n7_;clear hb hbox hg;have hnb23:=NB127_125.out;have hnc23:=NB125_127.out;have hcz24_0:w22.cell? ⟨gb127,0,none⟩=some (.int .i64 0):=(blk_cell BK127.out 0).trans rfl;have hcz24_1:w22.cell? ⟨gb127,1,none⟩=some (.int .i64 0):=(blk_cell BK127.out 1).trans rfl;have hcz24_2:w22.cell? ⟨gb127,2,none⟩=some (.int .i64 0):=(blk_cell BK127.out 2).trans rfl;have hfz24_0:=blk_frozen BK127.out 0;have hfz24_1:=blk_frozen BK127.out 1;have hfz24_2:=blk_frozen BK127.out 2;have hcz25_0:w22.cell? ⟨gb125,0,none⟩=some (.int .i64 a0_0):=(blk_cell BK125.out 0).trans rfl;have hcz25_1:w22.cell? ⟨gb125,1,none⟩=some (.slice A0_1 l0_1.length c0_1):=(blk_cell BK125.out 1).trans rfl;have hfz25_0:=blk_frozen BK125.out 0;have hfz25_1:=blk_frozen BK125.out 1)|((with_reducible refine gate_callee (f:=26) rfl ?_);refine goesL_ (some 19) rfl rfl Tryd.func26 (by kernel_rfl) rfl #[.agg #[.int .i64 a0_0,.slice A0_1 l0_1.length c0_1],.agg #[.int .i64 ((rd_T52 l1 x13_1).f0),.int .i64 ((rd_T52 l1 x13_1).f1),.int .i64 ((rd_T52 l1 x13_1).f2)]] rfl (by (try simp only [List.map_toArray,List.map_cons,List.map_nil]);first|done|rfl|(simp only [List.length_drop,List.length_take];rfl)) ?_;(with_reducible refine (spec_EventOk.calls k1 a0_0 _ _ l0_1 ((rd_T52 l1 x13_1).f0) ((rd_T52 l1 x13_1).f1) ((rd_T52 l1 x13_1).f2) false _ ?side1 ?side2 A9.out).mono ?_);(case side1=>exact Kd.C_below HR0_1.out (by repeat (first|(with_reducible first|exact HB.out|apply below_alloc|apply pw_below_drewN|apply below_drew1|refine below_set ?_ GE125.out|refine below_set ?_ GE127.out)|exact HB.out)));(case side2=>exact HC0_1.out);rintro e w26 ⟨rfl,hb⟩;refine ⟨_,rfl,?_⟩;have n0_:=Aside0.mk (Kd.R_below (by (with_reducible repeat (first|apply Kd.R_alloc|apply Kd.R_drewN|apply Kd.R_drew));exact (Kd.R_mono (Kd.R_far (p:=⟨gb127,2,none⟩) (Kd.R_far (p:=⟨gb127,1,none⟩) (Kd.R_far (p:=⟨gb127,0,none⟩) (Kd.R_types HO_5.out BK127.out (by decide)) (fun _ hk=>hk.2) (.int .i64 ((rd_T52 l1 x13_1).f0))) (fun _ hk=>hk.2) (.int .i64 ((rd_T52 l1 x13_1).f1))) (fun _ hk=>hk.2) (.int .i64 ((rd_T52 l1 x13_1).f2))) (fun _ h_=>h_.1))) hb);have n1_:=Aside0.mk (blk_below (g:=gb125) (o:=.cells #[.int .i64 a0_0,.slice A0_1 l0_1.length c0_1] 31 (0,0)) (by (with_reducible repeat (first|refine blk_drewN ?_ _|refine blk_drew ?_|refine blk_alloc ?_ _));refine blk_far ?_ NB125_127.out _;(with_reducible repeat (first|refine blk_drewN ?_ _|refine blk_drew ?_|refine blk_alloc ?_ _));refine blk_far ?_ NB125_127.out _;(with_reducible repeat (first|refine blk_drewN ?_ _|refine blk_drew ?_|refine blk_alloc ?_ _));refine blk_far ?_ NB125_127.out _;(with_reducible repeat (first|refine blk_drewN ?_ _|refine blk_drew ?_|refine blk_alloc ?_ _));exact BK125.out) hb);have n2_:=Aside0.mk (blk_below (g:=gb127) (o:=.cells #[.int .i64 ((rd_T52 l1 x13_1).f0),.int .i64 ((rd_T52 l1 x13_1).f1),.int .i64 ((rd_T52 l1 x13_1).f2)] 52 (0,0)) (by (with_reducible repeat (first|refine blk_drewN ?_ _|refine blk_drew ?_|refine blk_alloc ?_ _));refine blk_put (cs:=#[.int .i64 ((rd_T52 l1 x13_1).f0),.int .i64 ((rd_T52 l1 x13_1).f1),.int .i64 0]) ?_ 2 _ rfl;(with_reducible repeat (first|refine blk_drewN ?_ _|refine blk_drew ?_|refine blk_alloc ?_ _));refine blk_put (cs:=#[.int .i64 ((rd_T52 l1 x13_1).f0),.int .i64 0,.int .i64 0]) ?_ 1 _ rfl;(with_reducible repeat (first|refine blk_drewN ?_ _|refine blk_drew ?_|refine blk_alloc ?_ _));refine blk_put (cs:=#[.int .i64 0,.int .i64 0,.int .i64 0]) ?_ 0 _ rfl;(with_reducible repeat (first|refine blk_drewN ?_ _|refine blk_drew ?_|refine blk_alloc ?_ _));exact BK127.out) hb);have n3_:=Aside0.mk (below_step (by repeat (first|(with_reducible first|exact HB.out|apply below_alloc|apply pw_below_drewN|apply below_drew1|refine below_set ?_ GE125.out|refine below_set ?_ GE127.out)|exact HB.out)) hb);clear HO_5;clear BK125;clear BK127;clear HB;have HO_5:=n0_;have BK125:=n1_;have BK127:=n2_;have HB:=n3_;clear n0_ n1_ n2_ n3_;(try clear hb);(try clear hb2);(try clear hk);(try clear hi)))
      go_ret
      exact ⟨by first|rfl|(simp [errW_none,errW_some] <;> rfl)|(simp [*,errW_none,errW_some] <;> rfl),by repeat (first|(with_reducible first|exact HB.out|apply below_alloc|apply pw_below_drewN|apply below_drew1|refine below_set ?_ GE125.out|refine below_set ?_ GE127.out)|exact HB.out)⟩
     rw [if_neg c8] at H
     exact absurd H (by simp)
    rw [if_neg c7] at H
    exact absurd H (by simp)
   rw [if_neg c6] at H
   have c6b0:decide (x13_1<(l1.length:Int))=false:=decide_eq_false c6
   clear c6
   by_cases c27:(x5_1.length:Int) > 20000
   ·rw [if_pos c27] at H
    have c27b0:decide (20000<(x5_1.length:Int))=true:=decide_eq_true c27
    have c27b1:decide (20000<x5_1.length)=true:=decide_eq_true (by omega)
    clear c27
    obtain rfl:=Option.some.inj H
    obtain ⟨Ao28,co28,eo28⟩:=Kd.R_slice HO_5.out
    subst eo28
    go_wp2
    go_ret
    exact ⟨by first|rfl|(simp [errW_none,errW_some] <;> rfl)|(simp [*,errW_none,errW_some] <;> rfl),by repeat (first|(with_reducible first|exact HB.out|apply below_alloc|apply pw_below_drewN|apply below_drew1|refine below_set ?_ GE125.out)|exact HB.out)⟩
   rw [if_neg c27] at H
   have c27b0:decide (20000<(x5_1.length:Int))=false:=decide_eq_false c27
   have c27b1:decide (20000<x5_1.length)=false:=decide_eq_false (by omega)
   clear c27
   obtain rfl:=Option.some.inj H
   obtain ⟨Ao29,co29,eo29⟩:=Kd.R_slice HO_5.out
   subst eo29
   have hcv30:=own_string (P:=Tryd.prog) Tryd.underlying46 Tryd.underlying5 Tryd.underlying9 (Kd.own_of_R HO_5.out)
   go_wp2
   go_ret
   exact ⟨by first|rfl|(simp [errW_none,errW_some] <;> rfl)|(simp [*,errW_none,errW_some] <;> rfl),by repeat (first|(with_reducible first|exact HB.out|apply below_alloc|apply pw_below_drewN|apply below_drew1|refine below_set ?_ GE125.out)|exact HB.out)⟩
end Go.Proofs.YtpdnabhpkdchjaaDoor.P
namespace Go.Proofs.YtpdnabhpkdchjaaDoor.P
open Go.RowKit Go.Proofs.YtpdnabhpkdchjaaDoorW.PrintWords Go.Proofs.YtpdnabhpkdchjaaDoorW.PrintLast Go.Proofs.YtpdnabhpkdchjaaDoorW.PrintMore
attribute [local go_sem] max2_int min2_int max_two min_two max_three min_three max_four min_four
set_option linter.unusedVariables false
set_option linter.unusedSimpArgs false
def laws_FnExactWriteEvents.f (k:Nat) (a0_0:Int) (l0_1:List (S100)) (l1:List (S57)):Option (Bool):=(laws_szLayout.f a0_0 l0_1 1048576).bind fun t199=>(if t199<0 then (some true) else ((laws_szEventS.f l1 t199).bind fun t200=>(if t200<0 then (some true) else ((laws_toLayout.f k a0_0 l0_1).bind fun bt201=>((laws_toEventS.f k l1).bind fun t205=>((spec_WriteEvents.f k bt201.1 bt201.2 t205).bind fun t208=>((laws_toLayout.f k a0_0 l0_1).bind fun bt209=>((laws_toEventS.f k l1).bind fun t214=>((impl_WriteEvents.f bt209.1 bt209.2 t214).bind fun t217=>(if t217.toList=t208.toList then ((laws_toLayout.f k a0_0 l0_1).bind fun bt218=>((laws_eqLayout.f k bt209.1 bt209.2 bt218.1 bt218.2).bind fun t222=>(if t222=true then ((laws_toEventS.f k l1).bind fun t223=>((laws_eqEventS.f k t214 t223).bind fun t226=>(if t226=true then (some true) else (some false)))) else (some false)))) else (some false)))))))))))
set_option maxHeartbeats 8000000 in
set_option maxRecDepth 100000 in
theorem laws_FnExactWriteEvents.calls {T:Addr} {tc:Nat} (k:Nat) (a0_0:Int) (A0_1:Option Addr) (c0_1:Nat) (l0_1:List (S100)) (A1:Option Addr) (c1:Nat) (l1:List (S57)) (r:Bool) (w:World) (HT_:Aside0 (Tabs T tc w)) (hr0_1:Kd.C k100 w A0_1 l0_1.length l0_1) (hc0_1:l0_1.length≤c0_1) (hr1:Kd.C k57 w A1 l1.length l1) (hc1:l1.length≤c1) (HR_:Aside0 (r=true)) (h:laws_FnExactWriteEvents.f k a0_0 l0_1 l1=some r) :
  Calls Tryd.prog 3 #[.agg #[.int .i64 a0_0,.slice A0_1 l0_1.length c0_1],.slice A1 l1.length c1] w fun e w'=>e=.returned (.bool r)∧Below w.heap.size w w':=by
 have hu24:=Tryd.underlying24
 have hu31:=Tryd.underlying31
 have HR0_1:=Aside0.mk hr0_1
 have HC0_1:=Aside0.mk hc0_1
 clear hr0_1 hc0_1
 have HR1:=Aside0.mk hr1
 have HC1:=Aside0.mk hc1
 clear hr1 hc1
 have HB:=Aside0.mk (Below.refl w.heap.size w)
 have H:((laws_szLayout.f a0_0 l0_1 1048576).bind fun t199=>(if t199<0 then (some true) else ((laws_szEventS.f l1 t199).bind fun t200=>(if t200<0 then (some true) else ((laws_toLayout.f k a0_0 l0_1).bind fun bt201=>((laws_toEventS.f k l1).bind fun t205=>((spec_WriteEvents.f k bt201.1 bt201.2 t205).bind fun t208=>((laws_toLayout.f k a0_0 l0_1).bind fun bt209=>((laws_toEventS.f k l1).bind fun t214=>((impl_WriteEvents.f bt209.1 bt209.2 t214).bind fun t217=>(if t217.toList=t208.toList then ((laws_toLayout.f k a0_0 l0_1).bind fun bt218=>((laws_eqLayout.f k bt209.1 bt209.2 bt218.1 bt218.2).bind fun t222=>(if t222=true then ((laws_toEventS.f k l1).bind fun t223=>((laws_eqEventS.f k t214 t223).bind fun t226=>(if t226=true then (some true) else (some false)))) else (some false)))) else (some false))))))))))))=some r:=h
 clear h
 replace H:=Option.bind_eq_some_iff.mp H
 obtain ⟨t199,A30,H⟩:=H
 replace H:(if t199<0 then (some true) else ((laws_szEventS.f l1 t199).bind fun t200=>(if t200<0 then (some true) else ((laws_toLayout.f k a0_0 l0_1).bind fun bt201=>((laws_toEventS.f k l1).bind fun t205=>((spec_WriteEvents.f k bt201.1 bt201.2 t205).bind fun t208=>((laws_toLayout.f k a0_0 l0_1).bind fun bt209=>((laws_toEventS.f k l1).bind fun t214=>((impl_WriteEvents.f bt209.1 bt209.2 t214).bind fun t217=>(if t217.toList=t208.toList then ((laws_toLayout.f k a0_0 l0_1).bind fun bt218=>((laws_eqLayout.f k bt209.1 bt209.2 bt218.1 bt218.2).bind fun t222=>(if t222=true then ((laws_toEventS.f k l1).bind fun t223=>((laws_eqEventS.f k t214 t223).bind fun t226=>(if t226=true then (some true) else (some false)))) else (some false)))) else (some false)))))))))))=some r:=H
 have A3:=Aside0.mk A30
 clear A30
 by_cases c4:t199<0
 ·rw [if_pos c4] at H
  have c4b0:decide (t199<0)=true:=decide_eq_true c4
  clear c4
  obtain rfl:=Option.some.inj H
  go_enter Tryd.func3,Tryd.ntmps3
  go_wp2_with (first|((with_reducible refine gate_dst (N:=2) rfl ?_);refine box_event ?hg (N:=2) ?hd (cs:=#[.int .i64 a0_0,.slice A0_1 l0_1.length c0_1]) (t:=24) ?hr ?_;(case hd=>rfl);(case hg=>rfl);(case hr=>first|(go_simp;done)|(go_simp;rfl));intro gb198 hg w5 hbox hb;have n0_:=Aside0.mk (below_step (by repeat (first|(with_reducible first|exact HB.out|apply below_alloc|apply pw_below_drewN|apply below_drew1)|exact HB.out)) hb);have n1_:=Aside0.mk (hbox);have n2_:=Aside0.mk ((by rw [hg];exact (below_size (by repeat (first|(with_reducible first|exact HB.out|apply below_alloc|apply pw_below_drewN|apply below_drew1)|exact HB.out))):w.heap.size≤gb198));have n3_:=Aside0.mk ((by rw [hg];exact (below_size (by repeat (first|(with_reducible first|exact HB.out|apply below_alloc|apply pw_below_drewN|apply below_drew1)|exact HB.out))):w.heap.size≤gb198));clear HB;have HB:=n0_;have BK198:=n1_;have GW198:=n2_;have GE198:=n3_;clear n0_ n1_ n2_ n3_;clear hb hbox hg;have hcz6_0:w5.cell? ⟨gb198,0,none⟩=some (.int .i64 a0_0):=(blk_cell BK198.out 0).trans rfl;have hcz6_1:w5.cell? ⟨gb198,1,none⟩=some (.slice A0_1 l0_1.length c0_1):=(blk_cell BK198.out 1).trans rfl;have hfz6_0:=blk_frozen BK198.out 0;have hfz6_1:=blk_frozen BK198.out 1)|((with_reducible refine gate_callee (f:=7) rfl ?_);refine goesL_ (some 12) rfl rfl Tryd.func7 (by kernel_rfl) rfl #[.agg #[.int .i64 a0_0,.slice A0_1 l0_1.length c0_1],.int .i64 1048576] rfl (by (try simp only [List.map_toArray,List.map_cons,List.map_nil]);first|done|rfl|(simp only [List.length_drop,List.length_take];rfl)) ?_;(with_reducible refine (laws_szLayout.calls a0_0 _ _ l0_1 1048576 t199 _ ?side1 ?side2 A3.out).mono ?_);(case side1=>repeat (first|exact (Kd.C_below HR0_1.out HB.out)|(with_reducible refine Kd.C_alloc ?_ _)|(with_reducible refine Kd.C_drewN ?_ _)|(with_reducible refine Kd.C_drew ?_)));(case side2=>exact HC0_1.out);rintro e w7 ⟨rfl,hb⟩;refine ⟨_,rfl,?_⟩;have n0_:=Aside0.mk (blk_below (g:=gb198) (o:=.cells #[.int .i64 a0_0,.slice A0_1 l0_1.length c0_1] 24 (0,0)) (by (with_reducible repeat (first|refine blk_drewN ?_ _|refine blk_drew ?_|refine blk_alloc ?_ _));exact BK198.out) hb);have n1_:=Aside0.mk (below_step (by repeat (first|(with_reducible first|exact HB.out|apply below_alloc|apply pw_below_drewN|apply below_drew1|refine below_set ?_ GE198.out)|exact HB.out)) hb);clear BK198;clear HB;have BK198:=n0_;have HB:=n1_;clear n0_ n1_;(try clear hb);(try clear hb2);(try clear hk);(try clear hi)))
  go_ret
  exact ⟨by first|rfl|(simp [errW_none,errW_some] <;> rfl)|(simp [*,errW_none,errW_some] <;> rfl),by repeat (first|(with_reducible first|exact HB.out|apply below_alloc|apply pw_below_drewN|apply below_drew1|refine below_set ?_ GE198.out)|exact HB.out)⟩
 rw [if_neg c4] at H
 have c4b0:decide (t199<0)=false:=decide_eq_false c4
 clear c4
 replace H:=Option.bind_eq_some_iff.mp H
 obtain ⟨t200,A80,H⟩:=H
 replace H:(if t200<0 then (some true) else ((laws_toLayout.f k a0_0 l0_1).bind fun bt201=>((laws_toEventS.f k l1).bind fun t205=>((spec_WriteEvents.f k bt201.1 bt201.2 t205).bind fun t208=>((laws_toLayout.f k a0_0 l0_1).bind fun bt209=>((laws_toEventS.f k l1).bind fun t214=>((impl_WriteEvents.f bt209.1 bt209.2 t214).bind fun t217=>(if t217.toList=t208.toList then ((laws_toLayout.f k a0_0 l0_1).bind fun bt218=>((laws_eqLayout.f k bt209.1 bt209.2 bt218.1 bt218.2).bind fun t222=>(if t222=true then ((laws_toEventS.f k l1).bind fun t223=>((laws_eqEventS.f k t214 t223).bind fun t226=>(if t226=true then (some true) else (some false)))) else (some false)))) else (some false)))))))))=some r:=H
 have A8:=Aside0.mk A80
 clear A80
 by_cases c9:t200<0
 ·rw [if_pos c9] at H
  have c9b0:decide (t200<0)=true:=decide_eq_true c9
  clear c9
  obtain rfl:=Option.some.inj H
  go_enter Tryd.func3,Tryd.ntmps3
  go_wp2_with (first|((with_reducible refine gate_dst (N:=2) rfl ?_);refine box_event ?hg (N:=2) ?hd (cs:=#[.int .i64 a0_0,.slice A0_1 l0_1.length c0_1]) (t:=24) ?hr ?_;(case hd=>rfl);(case hg=>rfl);(case hr=>first|(go_simp;done)|(go_simp;rfl));intro gb198 hg w10 hbox hb;have n0_:=Aside0.mk (below_step (by repeat (first|(with_reducible first|exact HB.out|apply below_alloc|apply pw_below_drewN|apply below_drew1)|exact HB.out)) hb);have n1_:=Aside0.mk (hbox);have n2_:=Aside0.mk ((by rw [hg];exact (below_size (by repeat (first|(with_reducible first|exact HB.out|apply below_alloc|apply pw_below_drewN|apply below_drew1)|exact HB.out))):w.heap.size≤gb198));have n3_:=Aside0.mk ((by rw [hg];exact (below_size (by repeat (first|(with_reducible first|exact HB.out|apply below_alloc|apply pw_below_drewN|apply below_drew1)|exact HB.out))):w.heap.size≤gb198));clear HB;have HB:=n0_;have BK198:=n1_;have GW198:=n2_;have GE198:=n3_;clear n0_ n1_ n2_ n3_;clear hb hbox hg;have hcz11_0:w10.cell? ⟨gb198,0,none⟩=some (.int .i64 a0_0):=(blk_cell BK198.out 0).trans rfl;have hcz11_1:w10.cell? ⟨gb198,1,none⟩=some (.slice A0_1 l0_1.length c0_1):=(blk_cell BK198.out 1).trans rfl;have hfz11_0:=blk_frozen BK198.out 0;have hfz11_1:=blk_frozen BK198.out 1)|((with_reducible refine gate_callee (f:=7) rfl ?_);refine goesL_ (some 12) rfl rfl Tryd.func7 (by kernel_rfl) rfl #[.agg #[.int .i64 a0_0,.slice A0_1 l0_1.length c0_1],.int .i64 1048576] rfl (by (try simp only [List.map_toArray,List.map_cons,List.map_nil]);first|done|rfl|(simp only [List.length_drop,List.length_take];rfl)) ?_;(with_reducible refine (laws_szLayout.calls a0_0 _ _ l0_1 1048576 t199 _ ?side1 ?side2 A3.out).mono ?_);(case side1=>repeat (first|exact (Kd.C_below HR0_1.out HB.out)|(with_reducible refine Kd.C_alloc ?_ _)|(with_reducible refine Kd.C_drewN ?_ _)|(with_reducible refine Kd.C_drew ?_)));(case side2=>exact HC0_1.out);rintro e w12 ⟨rfl,hb⟩;refine ⟨_,rfl,?_⟩;have n0_:=Aside0.mk (blk_below (g:=gb198) (o:=.cells #[.int .i64 a0_0,.slice A0_1 l0_1.length c0_1] 24 (0,0)) (by (with_reducible repeat (first|refine blk_drewN ?_ _|refine blk_drew ?_|refine blk_alloc ?_ _));exact BK198.out) hb);have n1_:=Aside0.mk (below_step (by repeat (first|(with_reducible first|exact HB.out|apply below_alloc|apply pw_below_drewN|apply below_drew1|refine below_set ?_ GE198.out)|exact HB.out)) hb);clear BK198;clear HB;have BK198:=n0_;have HB:=n1_;clear n0_ n1_;(try clear hb);(try clear hb2);(try clear hk);(try clear hi))|((with_reducible refine gate_callee (f:=8) rfl ?_);refine goesL_ (some 17) rfl rfl Tryd.func8 (by kernel_rfl) rfl #[.slice A1 l1.length c1,.int .i64 t199] rfl (by (try simp only [List.map_toArray,List.map_cons,List.map_nil]);first|done|rfl|(simp only [List.length_drop,List.length_take];rfl)) ?_;(with_reducible refine (laws_szEventS.calls _ _ l1 t199 t200 _ ?side1 ?side2 A8.out).mono ?_);(case side1=>repeat (first|exact (Kd.C_below HR1.out HB.out)|(with_reducible refine Kd.C_alloc ?_ _)|(with_reducible refine Kd.C_drewN ?_ _)|(with_reducible refine Kd.C_drew ?_)));(case side2=>exact HC1.out);rintro e w' ⟨rfl,⟨nd,rfl⟩⟩;refine ⟨_,rfl,?_⟩))
  go_ret
  exact ⟨by first|rfl|(simp [errW_none,errW_some] <;> rfl)|(simp [*,errW_none,errW_some] <;> rfl),by repeat (first|(with_reducible first|exact HB.out|apply below_alloc|apply pw_below_drewN|apply below_drew1|refine below_set ?_ GE198.out)|exact HB.out)⟩
 rw [if_neg c9] at H
 have c9b0:decide (t200<0)=false:=decide_eq_false c9
 clear c9
 replace H:=Option.bind_eq_some_iff.mp H
 obtain ⟨⟨t201,t202⟩,A130,H⟩:=H
 replace H:((laws_toEventS.f k l1).bind fun t205=>((spec_WriteEvents.f k t201 t202 t205).bind fun t208=>((laws_toLayout.f k a0_0 l0_1).bind fun bt209=>((laws_toEventS.f k l1).bind fun t214=>((impl_WriteEvents.f bt209.1 bt209.2 t214).bind fun t217=>(if t217.toList=t208.toList then ((laws_toLayout.f k a0_0 l0_1).bind fun bt218=>((laws_eqLayout.f k bt209.1 bt209.2 bt218.1 bt218.2).bind fun t222=>(if t222=true then ((laws_toEventS.f k l1).bind fun t223=>((laws_eqEventS.f k t214 t223).bind fun t226=>(if t226=true then (some true) else (some false)))) else (some false)))) else (some false)))))))=some r:=H
 have A13:=Aside0.mk A130
 clear A130
 replace H:=Option.bind_eq_some_iff.mp H
 obtain ⟨t205,A140,H⟩:=H
 replace H:((spec_WriteEvents.f k t201 t202 t205).bind fun t208=>((laws_toLayout.f k a0_0 l0_1).bind fun bt209=>((laws_toEventS.f k l1).bind fun t214=>((impl_WriteEvents.f bt209.1 bt209.2 t214).bind fun t217=>(if t217.toList=t208.toList then ((laws_toLayout.f k a0_0 l0_1).bind fun bt218=>((laws_eqLayout.f k bt209.1 bt209.2 bt218.1 bt218.2).bind fun t222=>(if t222=true then ((laws_toEventS.f k l1).bind fun t223=>((laws_eqEventS.f k t214 t223).bind fun t226=>(if t226=true then (some true) else (some false)))) else (some false)))) else (some false))))))=some r:=H
 have A14:=Aside0.mk A140
 clear A140
 replace H:=Option.bind_eq_some_iff.mp H
 obtain ⟨t208,A150,H⟩:=H
 replace H:((laws_toLayout.f k a0_0 l0_1).bind fun bt209=>((laws_toEventS.f k l1).bind fun t214=>((impl_WriteEvents.f bt209.1 bt209.2 t214).bind fun t217=>(if t217.toList=t208.toList then ((laws_toLayout.f k a0_0 l0_1).bind fun bt218=>((laws_eqLayout.f k bt209.1 bt209.2 bt218.1 bt218.2).bind fun t222=>(if t222=true then ((laws_toEventS.f k l1).bind fun t223=>((laws_eqEventS.f k t214 t223).bind fun t226=>(if t226=true then (some true) else (some false)))) else (some false)))) else (some false)))))=some r:=H
 have A15:=Aside0.mk A150
 clear A150
 replace H:=Option.bind_eq_some_iff.mp H
 obtain ⟨⟨t209,t210⟩,A160,H⟩:=H
 replace H:((laws_toEventS.f k l1).bind fun t214=>((impl_WriteEvents.f t209 t210 t214).bind fun t217=>(if t217.toList=t208.toList then ((laws_toLayout.f k a0_0 l0_1).bind fun bt218=>((laws_eqLayout.f k t209 t210 bt218.1 bt218.2).bind fun t222=>(if t222=true then ((laws_toEventS.f k l1).bind fun t223=>((laws_eqEventS.f k t214 t223).bind fun t226=>(if t226=true then (some true) else (some false)))) else (some false)))) else (some false))))=some r:=H
 have A16:=Aside0.mk A160
 clear A160
 replace H:=Option.bind_eq_some_iff.mp H
 obtain ⟨t214,A170,H⟩:=H
 replace H:((impl_WriteEvents.f t209 t210 t214).bind fun t217=>(if t217.toList=t208.toList then ((laws_toLayout.f k a0_0 l0_1).bind fun bt218=>((laws_eqLayout.f k t209 t210 bt218.1 bt218.2).bind fun t222=>(if t222=true then ((laws_toEventS.f k l1).bind fun t223=>((laws_eqEventS.f k t214 t223).bind fun t226=>(if t226=true then (some true) else (some false)))) else (some false)))) else (some false)))=some r:=H
 have A17:=Aside0.mk A170
 clear A170
 replace H:=Option.bind_eq_some_iff.mp H
 obtain ⟨t217,A180,H⟩:=H
 replace H:(if t217.toList=t208.toList then ((laws_toLayout.f k a0_0 l0_1).bind fun bt218=>((laws_eqLayout.f k t209 t210 bt218.1 bt218.2).bind fun t222=>(if t222=true then ((laws_toEventS.f k l1).bind fun t223=>((laws_eqEventS.f k t214 t223).bind fun t226=>(if t226=true then (some true) else (some false)))) else (some false)))) else (some false))=some r:=H
 have A18:=Aside0.mk A180
 clear A180
 by_cases c19:t217.toList=t208.toList
 ·rw [if_pos c19] at H
  have c19b0:(t217.toList==t208.toList)=true:=beq_iff_eq.mpr c19
  have c19b1:(t217.toList != t208.toList)=false:=bne_eq_false_iff_eq.mpr c19
  clear c19
  replace H:=Option.bind_eq_some_iff.mp H
  obtain ⟨⟨t218,t219⟩,A200,H⟩:=H
  replace H:((laws_eqLayout.f k t209 t210 t218 t219).bind fun t222=>(if t222=true then ((laws_toEventS.f k l1).bind fun t223=>((laws_eqEventS.f k t214 t223).bind fun t226=>(if t226=true then (some true) else (some false)))) else (some false)))=some r:=H
  have A20:=Aside0.mk A200
  clear A200
  replace H:=Option.bind_eq_some_iff.mp H
  obtain ⟨t222,A210,H⟩:=H
  replace H:(if t222=true then ((laws_toEventS.f k l1).bind fun t223=>((laws_eqEventS.f k t214 t223).bind fun t226=>(if t226=true then (some true) else (some false)))) else (some false))=some r:=H
  have A21:=Aside0.mk A210
  clear A210
  by_cases c22:t222=true
  ·subst c22
   have H1:((laws_toEventS.f k l1).bind fun t223=>((laws_eqEventS.f k t214 t223).bind fun t226=>(if t226=true then (some true) else (some false))))=some r:=by rw [if_pos rfl] at H;exact H
   clear H
   have H:=H1
   clear H1
   replace H:=Option.bind_eq_some_iff.mp H
   obtain ⟨t223,A230,H⟩:=H
   replace H:((laws_eqEventS.f k t214 t223).bind fun t226=>(if t226=true then (some true) else (some false)))=some r:=H
   have A23:=Aside0.mk A230
   clear A230
   replace H:=Option.bind_eq_some_iff.mp H
   obtain ⟨t226,A240,H⟩:=H
   replace H:(if t226=true then (some true) else (some false))=some r:=H
   have A24:=Aside0.mk A240
   clear A240
   by_cases c25:t226=true
   ·subst c25
    have H1:(some true)=some r:=by rw [if_pos rfl] at H;exact H
    clear H
    have H:=H1
    clear H1
    obtain rfl:=Option.some.inj H
    go_enter Tryd.func3,Tryd.ntmps3
    try go_wp2_with (first|((with_reducible refine gate_dst (N:=2) rfl ?_);refine box_event ?hg (N:=2) ?hd (cs:=#[.int .i64 a0_0,.slice A0_1 l0_1.length c0_1]) (t:=24) ?hr ?_;(case hd=>rfl);(case hg=>rfl);(case hr=>first|(go_simp;done)|(go_simp;rfl));intro gb198 hg w26 hbox hb;have n0_:=Aside0.mk (below_step (by repeat (first|(with_reducible first|exact HB.out|apply below_alloc|apply pw_below_drewN|apply below_drew1)|exact HB.out)) hb);have n1_:=Aside0.mk (hbox);have n2_:=Aside0.mk ((by rw [hg];exact (below_size (by repeat (first|(with_reducible first|exact HB.out|apply below_alloc|apply pw_below_drewN|apply below_drew1)|exact HB.out))):w.heap.size≤gb198));have n3_:=Aside0.mk ((by rw [hg];exact (below_size (by repeat (first|(with_reducible first|exact HB.out|apply below_alloc|apply pw_below_drewN|apply below_drew1)|exact HB.out))):w.heap.size≤gb198));clear HB;have HB:=n0_;have BK198:=n1_;have GW198:=n2_;have GE198:=n3_;clear n0_ n1_ n2_ n3_;clear hb hbox hg;have hcz27_0:w26.cell? ⟨gb198,0,none⟩=some (.int .i64 a0_0):=(blk_cell BK198.out 0).trans rfl;have hcz27_1:w26.cell? ⟨gb198,1,none⟩=some (.slice A0_1 l0_1.length c0_1):=(blk_cell BK198.out 1).trans rfl;have hfz27_0:=blk_frozen BK198.out 0;have hfz27_1:=blk_frozen BK198.out 1)|((with_reducible refine gate_callee (f:=7) rfl ?_);refine goesL_ (some 12) rfl rfl Tryd.func7 (by kernel_rfl) rfl #[.agg #[.int .i64 a0_0,.slice A0_1 l0_1.length c0_1],.int .i64 1048576] rfl (by (try simp only [List.map_toArray,List.map_cons,List.map_nil]);first|done|rfl|(simp only [List.length_drop,List.length_take];rfl)) ?_;(with_reducible refine (laws_szLayout.calls a0_0 _ _ l0_1 1048576 t199 _ ?side1 ?side2 A3.out).mono ?_);(case side1=>repeat (first|exact (Kd.C_below HR0_1.out HB.out)|(with_reducible refine Kd.C_alloc ?_ _)|(with_reducible refine Kd.C_drewN ?_ _)|(with_reducible refine Kd.C_drew ?_)));(case side2=>exact HC0_1.out);rintro e w28 ⟨rfl,hb⟩;refine ⟨_,rfl,?_⟩;have n0_:=Aside0.mk (blk_below (g:=gb198) (o:=.cells #[.int .i64 a0_0,.slice A0_1 l0_1.length c0_1] 24 (0,0)) (by (with_reducible repeat (first|refine blk_drewN ?_ _|refine blk_drew ?_|refine blk_alloc ?_ _));exact BK198.out) hb);have n1_:=Aside0.mk (below_step (by repeat (first|(with_reducible first|exact HB.out|apply below_alloc|apply pw_below_drewN|apply below_drew1|refine below_set ?_ GE198.out)|exact HB.out)) hb);clear BK198;clear HB;have BK198:=n0_;have HB:=n1_;clear n0_ n1_;(try clear hb);(try clear hb2);(try clear hk);(try clear hi))|((with_reducible refine gate_callee (f:=8) rfl ?_);refine goesL_ (some 17) rfl rfl Tryd.func8 (by kernel_rfl) rfl #[.slice A1 l1.length c1,.int .i64 t199] rfl (by (try simp only [List.map_toArray,List.map_cons,List.map_nil]);first|done|rfl|(simp only [List.length_drop,List.length_take];rfl)) ?_;(with_reducible refine (laws_szEventS.calls _ _ l1 t199 t200 _ ?side1 ?side2 A8.out).mono ?_);(case side1=>repeat (first|exact (Kd.C_below HR1.out HB.out)|(with_reducible refine Kd.C_alloc ?_ _)|(with_reducible refine Kd.C_drewN ?_ _)|(with_reducible refine Kd.C_drew ?_)));(case side2=>exact HC1.out);rintro e w' ⟨rfl,⟨nd,rfl⟩⟩;refine ⟨_,rfl,?_⟩;(try (rw [drewN_self w28];generalize hq_:World.drewN w28 _=w28;have n0_:Aside0 (w28.heap[gb198]?=some (.cells #[.int .i64 a0_0,.slice A0_1 l0_1.length c0_1] 24 (0,0))):=⟨by rw [← hq_];exact (by (with_reducible repeat (first|refine blk_drewN ?_ _|refine blk_drew ?_|refine blk_alloc ?_ _));exact BK198.out)⟩;have n1_:Aside0 (Below w.heap.size w w28):=⟨by rw [← hq_];exact (by repeat (first|(with_reducible first|exact HB.out|apply below_alloc|apply pw_below_drewN|apply below_drew1|refine below_set ?_ GE198.out)|exact HB.out))⟩;clear BK198 HB hq_;have BK198:=n0_;have HB:=n1_;clear n0_ n1_));have hcz29_0:w28.cell? ⟨gb198,0,none⟩=some (.int .i64 a0_0):=(blk_cell BK198.out 0).trans rfl;have hcz29_1:w28.cell? ⟨gb198,1,none⟩=some (.slice A0_1 l0_1.length c0_1):=(blk_cell BK198.out 1).trans rfl;have hfz29_0:=blk_frozen BK198.out 0;have hfz29_1:=blk_frozen BK198.out 1)|((with_reducible refine gate_callee (f:=10) rfl ?_);refine goesL_ (some 21) rfl rfl Tryd.func10 (by kernel_rfl) rfl #[.agg #[.int .i64 a0_0,.slice A0_1 l0_1.length c0_1]] rfl (by (try simp only [List.map_toArray,List.map_cons,List.map_nil]);first|done|rfl|(simp only [List.length_drop,List.length_take];rfl)) ?_;(with_reducible refine (laws_toLayout.calls k a0_0 _ _ l0_1 t201 t202 _ ?side1 ?side2 A13.out).mono ?_);(case side1=>repeat (first|exact (Kd.C_below HR0_1.out HB.out)|(with_reducible refine Kd.C_alloc ?_ _)|(with_reducible refine Kd.C_drewN ?_ _)|(with_reducible refine Kd.C_drew ?_)));(case side2=>exact HC0_1.out);rintro e w30 ⟨v203,rfl,ho0,hb⟩;refine ⟨_,rfl,?_⟩;have n0_:=Aside0.mk (Kd.R_lower ho0 (below_size (by repeat (first|(with_reducible first|exact HB.out|apply below_alloc|apply pw_below_drewN|apply below_drew1|refine below_set ?_ GE198.out)|exact HB.out))));have n1_:=Aside0.mk (blk_below (g:=gb198) (o:=.cells #[.int .i64 a0_0,.slice A0_1 l0_1.length c0_1] 24 (0,0)) (by (with_reducible repeat (first|refine blk_drewN ?_ _|refine blk_drew ?_|refine blk_alloc ?_ _));exact BK198.out) hb);have n2_:=Aside0.mk (below_step (by repeat (first|(with_reducible first|exact HB.out|apply below_alloc|apply pw_below_drewN|apply below_drew1|refine below_set ?_ GE198.out)|exact HB.out)) hb);clear BK198;clear HB;have HO204:=n0_;have BK198:=n1_;have HB:=n2_;clear n0_ n1_ n2_;(try clear hb);(try clear hb2);(try clear hk);(try clear hi);(try clear ho0))|((with_reducible refine gate_callee (f:=11) rfl ?_);refine goesL_ (some 23) rfl rfl Tryd.func11 (by kernel_rfl) rfl #[.slice A1 l1.length c1] rfl (by (try simp only [List.map_toArray,List.map_cons,List.map_nil]);first|done|rfl|(simp only [List.length_drop,List.length_take];rfl)) ?_;(with_reducible refine (laws_toEventS.calls k _ _ l1 t205 _ ?side1 ?side2 A14.out).mono ?_);(case side1=>repeat (first|exact (Kd.C_below HR1.out HB.out)|(with_reducible refine Kd.C_alloc ?_ _)|(with_reducible refine Kd.C_drewN ?_ _)|(with_reducible refine Kd.C_drew ?_)));(case side2=>exact HC1.out);rintro e w31 ⟨v206,rfl,ho0,hb⟩;refine ⟨_,rfl,?_⟩;have n0_:=Aside0.mk (Kd.R_below (by (with_reducible repeat (first|apply Kd.R_alloc|apply Kd.R_drewN|apply Kd.R_drew));exact HO204.out) hb);have n1_:=Aside0.mk (Kd.R_lower ho0 (below_size (by repeat (first|(with_reducible first|exact HB.out|apply below_alloc|apply pw_below_drewN|apply below_drew1|refine below_set ?_ GE198.out)|exact HB.out))));have n2_:=Aside0.mk (blk_below (g:=gb198) (o:=.cells #[.int .i64 a0_0,.slice A0_1 l0_1.length c0_1] 24 (0,0)) (by (with_reducible repeat (first|refine blk_drewN ?_ _|refine blk_drew ?_|refine blk_alloc ?_ _));exact BK198.out) hb);have n3_:=Aside0.mk (below_step (by repeat (first|(with_reducible first|exact HB.out|apply below_alloc|apply pw_below_drewN|apply below_drew1|refine below_set ?_ GE198.out)|exact HB.out)) hb);clear HO204;clear BK198;clear HB;have HO204:=n0_;have HO207:=n1_;have BK198:=n2_;have HB:=n3_;clear n0_ n1_ n2_ n3_;(try clear hb);(try clear hb2);(try clear hk);(try clear hi);(try clear ho0);obtain ⟨Ao32,co32,eo32⟩:=Kd.R_slice HO204.out;subst eo32;obtain ⟨Ao33,co33,eo33⟩:=Kd.R_slice HO207.out;subst eo33)|((with_reducible refine gate_callee (f:=9) rfl ?_);refine goesL_ (some 24) rfl rfl Tryd.func9 (by kernel_rfl) rfl #[.agg #[.int .i64 t201,.slice Ao32 t202.length co32],.slice Ao33 t205.length co33] rfl (by (try simp only [List.map_toArray,List.map_cons,List.map_nil]);first|done|rfl|(simp only [List.length_drop,List.length_take];rfl)) ?_;(with_reducible refine (spec_WriteEvents.calls k t201 _ _ t202 _ _ t205 t208 _ ?side1 ?side2 ?side3 ?side4 A15.out).mono ?_);(case side1=>repeat (first|exact (Kd.R_reads' HO204.out).2.2|(with_reducible refine Kd.C_alloc ?_ _)|(with_reducible refine Kd.C_drewN ?_ _)|(with_reducible refine Kd.C_drew ?_)));(case side2=>exact (Kd.R_reads' HO204.out).2.1);(case side3=>repeat (first|exact (Kd.R_reads' HO207.out).2.2|(with_reducible refine Kd.C_alloc ?_ _)|(with_reducible refine Kd.C_drewN ?_ _)|(with_reducible refine Kd.C_drew ?_)));(case side4=>exact (Kd.R_reads' HO207.out).2.1);rintro e w34 ⟨rfl,hb⟩;refine ⟨_,rfl,?_⟩;have n0_:=Aside0.mk (Kd.R_below (by (with_reducible repeat (first|apply Kd.R_alloc|apply Kd.R_drewN|apply Kd.R_drew));exact HO204.out) hb);have n1_:=Aside0.mk (Kd.R_below (by (with_reducible repeat (first|apply Kd.R_alloc|apply Kd.R_drewN|apply Kd.R_drew));exact HO207.out) hb);have n2_:=Aside0.mk (blk_below (g:=gb198) (o:=.cells #[.int .i64 a0_0,.slice A0_1 l0_1.length c0_1] 24 (0,0)) (by (with_reducible repeat (first|refine blk_drewN ?_ _|refine blk_drew ?_|refine blk_alloc ?_ _));exact BK198.out) hb);have n3_:=Aside0.mk (below_step (by repeat (first|(with_reducible first|exact HB.out|apply below_alloc|apply pw_below_drewN|apply below_drew1|refine below_set ?_ GE198.out)|exact HB.out)) hb);clear HO204;clear HO207;clear BK198;clear HB;have HO204:=n0_;have HO207:=n1_;have BK198:=n2_;have HB:=n3_;clear n0_ n1_ n2_ n3_;(try clear hb);(try clear hb2);(try clear hk);(try clear hi);have hcz35_0:w34.cell? ⟨gb198,0,none⟩=some (.int .i64 a0_0):=(blk_cell BK198.out 0).trans rfl;have hcz35_1:w34.cell? ⟨gb198,1,none⟩=some (.slice A0_1 l0_1.length c0_1):=(blk_cell BK198.out 1).trans rfl;have hfz35_0:=blk_frozen BK198.out 0;have hfz35_1:=blk_frozen BK198.out 1)|((with_reducible refine gate_callee (f:=10) rfl ?_);refine goesL_ (some 26) rfl rfl Tryd.func10 (by kernel_rfl) rfl #[.agg #[.int .i64 a0_0,.slice A0_1 l0_1.length c0_1]] rfl (by (try simp only [List.map_toArray,List.map_cons,List.map_nil]);first|done|rfl|(simp only [List.length_drop,List.length_take];rfl)) ?_;(with_reducible refine (laws_toLayout.calls k a0_0 _ _ l0_1 t209 t210 _ ?side1 ?side2 A16.out).mono ?_);(case side1=>repeat (first|exact (Kd.C_below HR0_1.out HB.out)|(with_reducible refine Kd.C_alloc ?_ _)|(with_reducible refine Kd.C_drewN ?_ _)|(with_reducible refine Kd.C_drew ?_)));(case side2=>exact HC0_1.out);rintro e w36 ⟨v211,rfl,ho0,hb⟩;refine ⟨_,rfl,?_⟩;have n0_:=Aside0.mk (Kd.R_elder' (by (with_reducible repeat (first|apply Kd.R_alloc|apply Kd.R_drewN|apply Kd.R_drew));exact HO204.out) (Kd.R_base ho0) hb);have n1_:=Aside0.mk (Kd.R_below (by (with_reducible repeat (first|apply Kd.R_alloc|apply Kd.R_drewN|apply Kd.R_drew));exact HO207.out) hb);have n2_:=Aside0.mk (Kd.R_lower (Kd.R_new' ho0 (Kd.R_lt (by (with_reducible repeat (first|apply Kd.R_alloc|apply Kd.R_drewN|apply Kd.R_drew));exact HO204.out))) (below_size (by repeat (first|(with_reducible first|exact HB.out|apply below_alloc|apply pw_below_drewN|apply below_drew1|refine below_set ?_ GE198.out)|exact HB.out))));have n3_:=Aside0.mk (blk_below (g:=gb198) (o:=.cells #[.int .i64 a0_0,.slice A0_1 l0_1.length c0_1] 24 (0,0)) (by (with_reducible repeat (first|refine blk_drewN ?_ _|refine blk_drew ?_|refine blk_alloc ?_ _));exact BK198.out) hb);have n4_:=Aside0.mk (below_step (by repeat (first|(with_reducible first|exact HB.out|apply below_alloc|apply pw_below_drewN|apply below_drew1|refine below_set ?_ GE198.out)|exact HB.out)) hb);clear HO204;clear HO207;clear BK198;clear HB;have HO204:=n0_;have HO207:=n1_;have HO212:=n2_;have BK198:=n3_;have HB:=n4_;clear n0_ n1_ n2_ n3_ n4_;(try clear hb);(try clear hb2);(try clear hk);(try clear hi);(try clear ho0))|((with_reducible refine gate_dst (N:=7) rfl ?_);refine box_event ?hg (N:=7) ?hd (cs:=#[.int .i64 0,.slice none 0 0]) (t:=31) ?hr ?_;(case hd=>rfl);(case hg=>rfl);(case hr=>first|(go_simp;done)|(go_simp;rfl));intro gb213 hg w37 hbox hb;have n0_:=Aside0.mk (Kd.R_below (by (with_reducible repeat (first|apply Kd.R_alloc|apply Kd.R_drewN|apply Kd.R_drew));exact HO204.out) hb);have n1_:=Aside0.mk (Kd.R_below (by (with_reducible repeat (first|apply Kd.R_alloc|apply Kd.R_drewN|apply Kd.R_drew));exact HO207.out) hb);have n2_:=Aside0.mk (Kd.R_below (by (with_reducible repeat (first|apply Kd.R_alloc|apply Kd.R_drewN|apply Kd.R_drew));exact HO212.out) hb);have n3_:=Aside0.mk (blk_below (g:=gb198) (o:=.cells #[.int .i64 a0_0,.slice A0_1 l0_1.length c0_1] 24 (0,0)) (by (with_reducible repeat (first|refine blk_drewN ?_ _|refine blk_drew ?_|refine blk_alloc ?_ _));exact BK198.out) hb);have n4_:=Aside0.mk (below_step (by repeat (first|(with_reducible first|exact HB.out|apply below_alloc|apply pw_below_drewN|apply below_drew1|refine below_set ?_ GE198.out)|exact HB.out)) hb);have n5_:=Aside0.mk (hbox);have n6_:=Aside0.mk ((by rw [hg];exact (below_size (by repeat (first|(with_reducible first|exact HB.out|apply below_alloc|apply pw_below_drewN|apply below_drew1|refine below_set ?_ GE198.out)|exact HB.out))):w.heap.size≤gb213));have n7_:=Aside0.mk ((by rw [hg];exact (below_size (by repeat (first|(with_reducible first|exact HB.out|apply below_alloc|apply pw_below_drewN|apply below_drew1|refine below_set ?_ GE198.out)|exact HB.out))):w.heap.size≤gb213));have n8_:=Aside0.mk ((by rw [hg];exact Nat.ne_of_lt (blk_lt (g:=gb198) (o:=.cells #[.int .i64 a0_0,.slice A0_1 l0_1.length c0_1] 24 (0,0)) (by (with_reducible repeat (first|refine blk_drewN ?_ _|refine blk_drew ?_|refine blk_alloc ?_ _));exact BK198.out)):gb198 ≠ gb213));have n9_:=Aside0.mk ((by rw [hg];exact Nat.ne_of_gt (blk_lt (g:=gb198) (o:=.cells #[.int .i64 a0_0,.slice A0_1 l0_1.length c0_1] 24 (0,0)) (by (with_reducible repeat (first|refine blk_drewN ?_ _|refine blk_drew ?_|refine blk_alloc ?_ _));exact BK198.out)):gb213 ≠ gb198));clear HO204;clear HO207;clear HO212;clear BK198;clear HB;have HO204:=n0_;have HO207:=n1_;have HO212:=n2_;have BK198:=n3_;have HB:=n4_;have BK213:=n5_;have GW213:=n6_;have GE213:=n7_;have NB198_213:=n8_;have NB213_198:=n9_;clear n0_ n1_ n2_ n3_ n4_ n5_ n6_ n7_ n8_ n9_;clear hb hbox hg;have hnb38:=NB213_198.out;have hnc38:=NB198_213.out;have hcz39_0:w37.cell? ⟨gb213,0,none⟩=some (.int .i64 0):=(blk_cell BK213.out 0).trans rfl;have hcz39_1:w37.cell? ⟨gb213,1,none⟩=some (.slice none 0 0):=(blk_cell BK213.out 1).trans rfl;have hfz39_0:=blk_frozen BK213.out 0;have hfz39_1:=blk_frozen BK213.out 1;obtain ⟨Ao40,co40,eo40⟩:=Kd.R_slice HO212.out;subst eo40)|((with_reducible refine gate_callee (f:=11) rfl ?_);refine goesL_ (some 28) rfl rfl Tryd.func11 (by kernel_rfl) rfl #[.slice A1 l1.length c1] rfl (by (try simp only [List.map_toArray,List.map_cons,List.map_nil]);first|done|rfl|(simp only [List.length_drop,List.length_take];rfl)) ?_;(with_reducible refine (laws_toEventS.calls k _ _ l1 t214 _ ?side1 ?side2 A17.out).mono ?_);(case side1=>exact Kd.C_below HR1.out (by repeat (first|(with_reducible first|exact HB.out|apply below_alloc|apply pw_below_drewN|apply below_drew1|refine below_set ?_ GE198.out|refine below_set ?_ GE213.out)|exact HB.out)));(case side2=>exact HC1.out);rintro e w41 ⟨v215,rfl,ho0,hb⟩;refine ⟨_,rfl,?_⟩;have n0_:=Aside0.mk (Kd.R_below (by (with_reducible repeat (first|apply Kd.R_alloc|apply Kd.R_drewN|apply Kd.R_drew));exact (Kd.R_mono (Kd.R_far (p:=⟨gb213,1,none⟩) (Kd.R_far (p:=⟨gb213,0,none⟩) (Kd.R_types HO204.out BK213.out (by decide)) (fun _ hk=>hk.2) (.int .i64 t209)) (fun _ hk=>hk.2) (.slice Ao40 t210.length co40)) (fun _ h_=>h_.1))) hb);have n1_:=Aside0.mk (Kd.R_elder' (by (with_reducible repeat (first|apply Kd.R_alloc|apply Kd.R_drewN|apply Kd.R_drew));exact (Kd.R_mono (Kd.R_far (p:=⟨gb213,1,none⟩) (Kd.R_far (p:=⟨gb213,0,none⟩) (Kd.R_types HO207.out BK213.out (by decide)) (fun _ hk=>hk.2) (.int .i64 t209)) (fun _ hk=>hk.2) (.slice Ao40 t210.length co40)) (fun _ h_=>h_.1))) (Kd.R_base ho0) hb);have n2_:=Aside0.mk (Kd.R_below (by (with_reducible repeat (first|apply Kd.R_alloc|apply Kd.R_drewN|apply Kd.R_drew));exact (Kd.R_mono (Kd.R_far (p:=⟨gb213,1,none⟩) (Kd.R_far (p:=⟨gb213,0,none⟩) (Kd.R_types HO212.out BK213.out (by decide)) (fun _ hk=>hk.2) (.int .i64 t209)) (fun _ hk=>hk.2) (.slice Ao40 t210.length co40)) (fun _ h_=>h_.1))) hb);have n3_:=Aside0.mk (Kd.R_lower (Kd.R_new' ho0 (Kd.R_lt (by (with_reducible repeat (first|apply Kd.R_alloc|apply Kd.R_drewN|apply Kd.R_drew));exact (Kd.R_mono (Kd.R_far (p:=⟨gb213,1,none⟩) (Kd.R_far (p:=⟨gb213,0,none⟩) (Kd.R_types HO207.out BK213.out (by decide)) (fun _ hk=>hk.2) (.int .i64 t209)) (fun _ hk=>hk.2) (.slice Ao40 t210.length co40)) (fun _ h_=>h_.1))))) (below_size (by repeat (first|(with_reducible first|exact HB.out|apply below_alloc|apply pw_below_drewN|apply below_drew1|refine below_set ?_ GE198.out|refine below_set ?_ GE213.out)|exact HB.out))));have n4_:=Aside0.mk (blk_below (g:=gb198) (o:=.cells #[.int .i64 a0_0,.slice A0_1 l0_1.length c0_1] 24 (0,0)) (by (with_reducible repeat (first|refine blk_drewN ?_ _|refine blk_drew ?_|refine blk_alloc ?_ _));refine blk_far ?_ NB198_213.out _;(with_reducible repeat (first|refine blk_drewN ?_ _|refine blk_drew ?_|refine blk_alloc ?_ _));refine blk_far ?_ NB198_213.out _;(with_reducible repeat (first|refine blk_drewN ?_ _|refine blk_drew ?_|refine blk_alloc ?_ _));exact BK198.out) hb);have n5_:=Aside0.mk (blk_below (g:=gb213) (o:=.cells #[.int .i64 t209,.slice Ao40 t210.length co40] 31 (0,0)) (by (with_reducible repeat (first|refine blk_drewN ?_ _|refine blk_drew ?_|refine blk_alloc ?_ _));refine blk_put (cs:=#[.int .i64 t209,.slice none 0 0]) ?_ 1 _ rfl;(with_reducible repeat (first|refine blk_drewN ?_ _|refine blk_drew ?_|refine blk_alloc ?_ _));refine blk_put (cs:=#[.int .i64 0,.slice none 0 0]) ?_ 0 _ rfl;(with_reducible repeat (first|refine blk_drewN ?_ _|refine blk_drew ?_|refine blk_alloc ?_ _));exact BK213.out) hb);have n6_:=Aside0.mk (below_step (by repeat (first|(with_reducible first|exact HB.out|apply below_alloc|apply pw_below_drewN|apply below_drew1|refine below_set ?_ GE198.out|refine below_set ?_ GE213.out)|exact HB.out)) hb);clear HO204;clear HO207;clear HO212;clear BK198;clear BK213;clear HB;have HO204:=n0_;have HO207:=n1_;have HO212:=n2_;have HO216:=n3_;have BK198:=n4_;have BK213:=n5_;have HB:=n6_;clear n0_ n1_ n2_ n3_ n4_ n5_ n6_;(try clear hb);(try clear hb2);(try clear hk);(try clear hi);(try clear ho0);have hcz42_0:w41.cell? ⟨gb213,0,none⟩=some (.int .i64 t209):=(blk_cell BK213.out 0).trans rfl;have hcz42_1:w41.cell? ⟨gb213,1,none⟩=some (.slice Ao40 t210.length co40):=(blk_cell BK213.out 1).trans rfl;have hfz42_0:=blk_frozen BK213.out 0;have hfz42_1:=blk_frozen BK213.out 1;obtain ⟨Ao43,co43,eo43⟩:=Kd.R_slice HO216.out;subst eo43)|((with_reducible refine gate_callee (f:=12) rfl ?_);refine goesL_ (some 31) rfl rfl Tryd.func12 (by kernel_rfl) rfl #[.agg #[.int .i64 t209,.slice Ao40 t210.length co40],.slice Ao43 t214.length co43] rfl (by (try simp only [List.map_toArray,List.map_cons,List.map_nil]);first|done|rfl|(simp only [List.length_drop,List.length_take];rfl)) ?_;(with_reducible refine (impl_WriteEvents.calls t209 _ _ t210 _ _ t214 t217 _ ?side1 ?side2 ?side3 ?side4 A18.out (HT_.out.nx (by repeat (first|(with_reducible first|exact HB.out|apply below_alloc|apply pw_below_drewN|apply below_drew1)|exact HB.out)))).mono ?_);(case side1=>repeat (first|exact (Kd.R_reads' HO212.out).2.2|(with_reducible refine Kd.C_alloc ?_ _)|(with_reducible refine Kd.C_drewN ?_ _)|(with_reducible refine Kd.C_drew ?_)));(case side2=>exact (Kd.R_reads' HO212.out).2.1);(case side3=>repeat (first|exact (Kd.R_reads' HO216.out).2.2|(with_reducible refine Kd.C_alloc ?_ _)|(with_reducible refine Kd.C_drewN ?_ _)|(with_reducible refine Kd.C_drew ?_)));(case side4=>exact (Kd.R_reads' HO216.out).2.1);rintro e w44 ⟨rfl,hb⟩;refine ⟨_,rfl,?_⟩;have n0_:=Aside0.mk (Kd.R_below (by (with_reducible repeat (first|apply Kd.R_alloc|apply Kd.R_drewN|apply Kd.R_drew));exact HO204.out) hb);have n1_:=Aside0.mk (Kd.R_below (by (with_reducible repeat (first|apply Kd.R_alloc|apply Kd.R_drewN|apply Kd.R_drew));exact HO207.out) hb);have n2_:=Aside0.mk (Kd.R_below (by (with_reducible repeat (first|apply Kd.R_alloc|apply Kd.R_drewN|apply Kd.R_drew));exact HO212.out) hb);have n3_:=Aside0.mk (Kd.R_below (by (with_reducible repeat (first|apply Kd.R_alloc|apply Kd.R_drewN|apply Kd.R_drew));exact HO216.out) hb);have n4_:=Aside0.mk (blk_below (g:=gb198) (o:=.cells #[.int .i64 a0_0,.slice A0_1 l0_1.length c0_1] 24 (0,0)) (by (with_reducible repeat (first|refine blk_drewN ?_ _|refine blk_drew ?_|refine blk_alloc ?_ _));exact BK198.out) hb);have n5_:=Aside0.mk (blk_below (g:=gb213) (o:=.cells #[.int .i64 t209,.slice Ao40 t210.length co40] 31 (0,0)) (by (with_reducible repeat (first|refine blk_drewN ?_ _|refine blk_drew ?_|refine blk_alloc ?_ _));exact BK213.out) hb);have n6_:=Aside0.mk (below_step (by repeat (first|(with_reducible first|exact HB.out|apply below_alloc|apply pw_below_drewN|apply below_drew1|refine below_set ?_ GE198.out|refine below_set ?_ GE213.out)|exact HB.out)) hb);clear HO204;clear HO207;clear HO212;clear HO216;clear BK198;clear BK213;clear HB;have HO204:=n0_;have HO207:=n1_;have HO212:=n2_;have HO216:=n3_;have BK198:=n4_;have BK213:=n5_;have HB:=n6_;clear n0_ n1_ n2_ n3_ n4_ n5_ n6_;(try clear hb);(try clear hb2);(try clear hk);(try clear hi)))
    have n0_:=Aside0.mk (Kd.R_drew HO204.out)
    have n1_:=Aside0.mk (Kd.R_drew HO207.out)
    have n2_:=Aside0.mk (Kd.R_drew HO212.out)
    have n3_:=Aside0.mk (Kd.R_drew HO216.out)
    have n4_:=Aside0.mk (blk_drew BK198.out)
    have n5_:=Aside0.mk (blk_drew BK213.out)
    have n6_:=Aside0.mk (below_drew1 HB.out)
    clear HO204
    clear HO207
    clear HO212
    clear HO216
    clear BK198
    clear BK213
    clear HB
    have HO204:=n0_
    have HO207:=n1_
    have HO212:=n2_
    have HO216:=n3_
    have BK198:=n4_
    have BK213:=n5_
    have HB:=n6_
    clear n0_ n1_ n2_ n3_ n4_ n5_ n6_
    refine start_ (n:=5) (S:=fun w'=>w'.cell? ⟨gb213,0,none⟩=some (.int .i64 t209)∧w'.cell? ⟨gb213,1,none⟩=some (.slice Ao40 t210.length co40)∧w'.cell? ⟨gb198,0,none⟩=some (.int .i64 a0_0)∧w'.cell? ⟨gb198,1,none⟩=some (.slice A0_1 l0_1.length c0_1)) (ds:=[]) #[false,false,false,false,false] (by kernel_rfl) rfl rfl ⟨(blk_cell BK213.out 0).trans rfl,(blk_cell BK213.out 1).trans rfl,(blk_cell BK198.out 0).trans rfl,(blk_cell BK198.out 1).trans rfl⟩ (fun hHeld=>?_)
    generalize w44.drew=w45 at HO204 HO207 HO212 HO216 BK198 BK213 HB hHeld ⊢
    refine take_ (i:=0) (N:=some 35) (v:=?_) (a':=?_) #[true,false,false,false,false] rfl rfl (by kernel_rfl) (fun _ _ _ h=>h) (Or.inl ⟨by rfl,?_⟩) hHeld ?_ ?_
    rotate_left
    ·rintro w' ⟨s0,s1,s2,s3⟩
     go_simp
     with_reducible rfl
    rotate_left
    ·simp only [Act.put,List.setIfInBounds_toArray,List.set_cons_zero,List.set_cons_succ,i64_w,i32_w]
     rfl
    refine take_ (i:=1) (N:=some 36) (v:=?_) (a':=?_) #[true,true,false,false,false] rfl rfl (by kernel_rfl) (fun _ _ _ h=>h) (Or.inl ⟨by rfl,?_⟩) hHeld ?_ ?_
    rotate_left
    ·rintro w' ⟨s0,s1,s2,s3⟩
     go_simp
     with_reducible rfl
    rotate_left
    ·simp only [Act.put,List.setIfInBounds_toArray,List.set_cons_zero,List.set_cons_succ,i64_w,i32_w]
     rfl
    refine one_ (i:=2) (N:=some 37) #[true,true,true,false,false] rfl rfl (by kernel_rfl) (by decide) (fun K hK=>?_)
    refine goes_ Tryd.func10 (by kernel_rfl) rfl #[.agg #[.int .i64 a0_0,.slice A0_1 l0_1.length c0_1]] (by rfl) rfl rfl (by (try simp only [List.map_toArray,List.map_cons,List.map_nil]);first|done|rfl|(simp only [List.length_drop,List.length_take];rfl)) ?_
    with_reducible refine (laws_toLayout.calls k a0_0 _ _ l0_1 t218 t219 _ ?side1 ?side2 A20.out).mono ?_
    (case side1=>repeat (first|exact (Kd.C_below HR0_1.out HB.out)|(with_reducible refine Kd.C_alloc ?_ _)|(with_reducible refine Kd.C_drewN ?_ _)|(with_reducible refine Kd.C_drew ?_)))
    (case side2=>exact HC0_1.out)
    rintro e w46 ⟨v220,rfl,ho0,hb⟩
    refine ⟨_,rfl,?_⟩
    have n0_:=Aside0.mk (Kd.R_elder' (by (with_reducible repeat (first|apply Kd.R_alloc|apply Kd.R_drewN|apply Kd.R_drew));exact HO204.out) (Kd.R_base ho0) hb)
    have n1_:=Aside0.mk (Kd.R_below (by (with_reducible repeat (first|apply Kd.R_alloc|apply Kd.R_drewN|apply Kd.R_drew));exact HO207.out) hb)
    have n2_:=Aside0.mk (Kd.R_elder' (by (with_reducible repeat (first|apply Kd.R_alloc|apply Kd.R_drewN|apply Kd.R_drew));exact HO212.out) (Kd.R_base ho0) hb)
    have n3_:=Aside0.mk (Kd.R_below (by (with_reducible repeat (first|apply Kd.R_alloc|apply Kd.R_drewN|apply Kd.R_drew));exact HO216.out) hb)
    have n4_:=Aside0.mk (Kd.R_lower (Kd.R_new' (Kd.R_new' ho0 (Kd.R_lt (by (with_reducible repeat (first|apply Kd.R_alloc|apply Kd.R_drewN|apply Kd.R_drew));exact HO204.out))) (Kd.R_lt (by (with_reducible repeat (first|apply Kd.R_alloc|apply Kd.R_drewN|apply Kd.R_drew));exact HO212.out))) (below_size (by repeat (first|(with_reducible first|exact HB.out|apply below_alloc|apply pw_below_drewN|apply below_drew1|refine below_set ?_ GE198.out|refine below_set ?_ GE213.out)|exact HB.out))))
    have n5_:=Aside0.mk (blk_below (g:=gb198) (o:=.cells #[.int .i64 a0_0,.slice A0_1 l0_1.length c0_1] 24 (0,0)) (by (with_reducible repeat (first|refine blk_drewN ?_ _|refine blk_drew ?_|refine blk_alloc ?_ _));exact BK198.out) hb)
    have n6_:=Aside0.mk (blk_below (g:=gb213) (o:=.cells #[.int .i64 t209,.slice Ao40 t210.length co40] 31 (0,0)) (by (with_reducible repeat (first|refine blk_drewN ?_ _|refine blk_drew ?_|refine blk_alloc ?_ _));exact BK213.out) hb)
    have n7_:=Aside0.mk (below_step (by repeat (first|(with_reducible first|exact HB.out|apply below_alloc|apply pw_below_drewN|apply below_drew1|refine below_set ?_ GE198.out|refine below_set ?_ GE213.out)|exact HB.out)) hb)
    clear HO204
    clear HO207
    clear HO212
    clear HO216
    clear BK198
    clear BK213
    clear HB
    have HO204:=n0_
    have HO207:=n1_
    have HO212:=n2_
    have HO216:=n3_
    have HO221:=n4_
    have BK198:=n5_
    have BK213:=n6_
    have HB:=n7_
    clear n0_ n1_ n2_ n3_ n4_ n5_ n6_ n7_
    (try clear hb)
    (try clear hb2)
    (try clear hk)
    (try clear hi)
    (try clear ho0)
    obtain ⟨Ao47,co47,eo47⟩:=Kd.R_slice HO221.out
    (first|subst eo47|(injection eo47 with f1_ f2_ f3_;have f4_:=f1_.symm;have f5_:=f3_.symm;clear f1_ f2_ f3_;subst f4_;subst f5_))
    refine hK.out _ _ ⟨(blk_cell BK213.out 0).trans rfl,(blk_cell BK213.out 1).trans rfl,(blk_cell BK198.out 0).trans rfl,(blk_cell BK198.out 1).trans rfl⟩ (fun hHeld=>?_)
    clear hK K
    refine norm_ (a':=?_) ?_ ?_
    rotate_left
    ·show Act.put _ (some 37) _=_
     simp only [Act.put,List.setIfInBounds_toArray,List.set_cons_zero,List.set_cons_succ,i64_w,i32_w]
     rfl
    refine one_ (i:=3) (N:=some 38) #[true,true,true,true,false] rfl rfl (by kernel_rfl) (by decide) (fun K hK=>?_)
    refine goes_ Tryd.func13 (by kernel_rfl) rfl #[.agg #[.int .i64 t209,.slice Ao40 t210.length co40],.agg #[.int .i64 t218,.slice Ao47 t219.length co47]] (by rfl) rfl rfl (by (try simp only [List.map_toArray,List.map_cons,List.map_nil]);first|done|rfl|(simp only [List.length_drop,List.length_take];rfl)) ?_
    with_reducible refine (laws_eqLayout.calls k t209 _ _ t210 t218 _ _ t219 true _ ?side1 ?side2 ?side3 ?side4 A21.out).mono ?_
    (case side1=>repeat (first|exact (Kd.R_reads' HO212.out).2.2|(with_reducible refine Kd.C_alloc ?_ _)|(with_reducible refine Kd.C_drewN ?_ _)|(with_reducible refine Kd.C_drew ?_)))
    (case side2=>exact (Kd.R_reads' HO212.out).2.1)
    (case side3=>repeat (first|exact (Kd.R_reads' HO221.out).2.2|(with_reducible refine Kd.C_alloc ?_ _)|(with_reducible refine Kd.C_drewN ?_ _)|(with_reducible refine Kd.C_drew ?_)))
    (case side4=>exact (Kd.R_reads' HO221.out).2.1)
    rintro e w48 ⟨rfl,hb⟩
    refine ⟨_,rfl,?_⟩
    have n0_:=Aside0.mk (Kd.R_below (by (with_reducible repeat (first|apply Kd.R_alloc|apply Kd.R_drewN|apply Kd.R_drew));exact HO204.out) hb)
    have n1_:=Aside0.mk (Kd.R_below (by (with_reducible repeat (first|apply Kd.R_alloc|apply Kd.R_drewN|apply Kd.R_drew));exact HO207.out) hb)
    have n2_:=Aside0.mk (Kd.R_below (by (with_reducible repeat (first|apply Kd.R_alloc|apply Kd.R_drewN|apply Kd.R_drew));exact HO212.out) hb)
    have n3_:=Aside0.mk (Kd.R_below (by (with_reducible repeat (first|apply Kd.R_alloc|apply Kd.R_drewN|apply Kd.R_drew));exact HO216.out) hb)
    have n4_:=Aside0.mk (Kd.R_below (by (with_reducible repeat (first|apply Kd.R_alloc|apply Kd.R_drewN|apply Kd.R_drew));exact HO221.out) hb)
    have n5_:=Aside0.mk (blk_below (g:=gb198) (o:=.cells #[.int .i64 a0_0,.slice A0_1 l0_1.length c0_1] 24 (0,0)) (by (with_reducible repeat (first|refine blk_drewN ?_ _|refine blk_drew ?_|refine blk_alloc ?_ _));exact BK198.out) hb)
    have n6_:=Aside0.mk (blk_below (g:=gb213) (o:=.cells #[.int .i64 t209,.slice Ao40 t210.length co40] 31 (0,0)) (by (with_reducible repeat (first|refine blk_drewN ?_ _|refine blk_drew ?_|refine blk_alloc ?_ _));exact BK213.out) hb)
    have n7_:=Aside0.mk (below_step (by repeat (first|(with_reducible first|exact HB.out|apply below_alloc|apply pw_below_drewN|apply below_drew1|refine below_set ?_ GE198.out|refine below_set ?_ GE213.out)|exact HB.out)) hb)
    clear HO204
    clear HO207
    clear HO212
    clear HO216
    clear HO221
    clear BK198
    clear BK213
    clear HB
    have HO204:=n0_
    have HO207:=n1_
    have HO212:=n2_
    have HO216:=n3_
    have HO221:=n4_
    have BK198:=n5_
    have BK213:=n6_
    have HB:=n7_
    clear n0_ n1_ n2_ n3_ n4_ n5_ n6_ n7_
    (try clear hb)
    (try clear hb2)
    (try clear hk)
    (try clear hi)
    refine hK.out _ _ ⟨(blk_cell BK213.out 0).trans rfl,(blk_cell BK213.out 1).trans rfl,(blk_cell BK198.out 0).trans rfl,(blk_cell BK198.out 1).trans rfl⟩ (fun hHeld=>?_)
    clear hK K
    refine norm_ (a':=?_) ?_ ?_
    rotate_left
    ·show Act.put _ (some 38) _=_
     simp only [Act.put,List.setIfInBounds_toArray,List.set_cons_zero,List.set_cons_succ,i64_w,i32_w]
     rfl
    refine pure_ (i:=4) (N:=some 39) (v:=?_) (a':=?_) #[true,true,true,true,true] rfl rfl (by kernel_rfl) (fun _ _ _ h=>h) (Or.inl ⟨by rfl,?_⟩) ?_ ?_
    rotate_left
    ·intro w'
     go_simp
     with_reducible rfl
    rotate_left
    ·simp only [Act.put,List.setIfInBounds_toArray,List.set_cons_zero,List.set_cons_succ,i64_w,i32_w]
     rfl
    refine done_ (by kernel_rfl) ?_
    try go_wp2_with (first|((with_reducible refine gate_callee (f:=11) rfl ?_);refine goesL_ (some 42) rfl rfl Tryd.func11 (by kernel_rfl) rfl #[.slice A1 l1.length c1] rfl (by (try simp only [List.map_toArray,List.map_cons,List.map_nil]);first|done|rfl|(simp only [List.length_drop,List.length_take];rfl)) ?_;(with_reducible refine (laws_toEventS.calls k _ _ l1 t223 _ ?side1 ?side2 A23.out).mono ?_);(case side1=>repeat (first|exact (Kd.C_below HR1.out HB.out)|(with_reducible refine Kd.C_alloc ?_ _)|(with_reducible refine Kd.C_drewN ?_ _)|(with_reducible refine Kd.C_drew ?_)));(case side2=>exact HC1.out);rintro e w49 ⟨v224,rfl,ho0,hb⟩;refine ⟨_,rfl,?_⟩;have n0_:=Aside0.mk (Kd.R_below (by (with_reducible repeat (first|apply Kd.R_alloc|apply Kd.R_drewN|apply Kd.R_drew));exact HO204.out) hb);have n1_:=Aside0.mk (Kd.R_elder' (by (with_reducible repeat (first|apply Kd.R_alloc|apply Kd.R_drewN|apply Kd.R_drew));exact HO207.out) (Kd.R_base ho0) hb);have n2_:=Aside0.mk (Kd.R_below (by (with_reducible repeat (first|apply Kd.R_alloc|apply Kd.R_drewN|apply Kd.R_drew));exact HO212.out) hb);have n3_:=Aside0.mk (Kd.R_elder' (by (with_reducible repeat (first|apply Kd.R_alloc|apply Kd.R_drewN|apply Kd.R_drew));exact HO216.out) (Kd.R_base ho0) hb);have n4_:=Aside0.mk (Kd.R_below (by (with_reducible repeat (first|apply Kd.R_alloc|apply Kd.R_drewN|apply Kd.R_drew));exact HO221.out) hb);have n5_:=Aside0.mk (Kd.R_lower (Kd.R_new' (Kd.R_new' ho0 (Kd.R_lt (by (with_reducible repeat (first|apply Kd.R_alloc|apply Kd.R_drewN|apply Kd.R_drew));exact HO207.out))) (Kd.R_lt (by (with_reducible repeat (first|apply Kd.R_alloc|apply Kd.R_drewN|apply Kd.R_drew));exact HO216.out))) (below_size (by repeat (first|(with_reducible first|exact HB.out|apply below_alloc|apply pw_below_drewN|apply below_drew1|refine below_set ?_ GE198.out|refine below_set ?_ GE213.out)|exact HB.out))));have n6_:=Aside0.mk (blk_below (g:=gb198) (o:=.cells #[.int .i64 a0_0,.slice A0_1 l0_1.length c0_1] 24 (0,0)) (by (with_reducible repeat (first|refine blk_drewN ?_ _|refine blk_drew ?_|refine blk_alloc ?_ _));exact BK198.out) hb);have n7_:=Aside0.mk (blk_below (g:=gb213) (o:=.cells #[.int .i64 t209,.slice Ao40 t210.length co40] 31 (0,0)) (by (with_reducible repeat (first|refine blk_drewN ?_ _|refine blk_drew ?_|refine blk_alloc ?_ _));exact BK213.out) hb);have n8_:=Aside0.mk (below_step (by repeat (first|(with_reducible first|exact HB.out|apply below_alloc|apply pw_below_drewN|apply below_drew1|refine below_set ?_ GE198.out|refine below_set ?_ GE213.out)|exact HB.out)) hb);clear HO204;clear HO207;clear HO212;clear HO216;clear HO221;clear BK198;clear BK213;clear HB;have HO204:=n0_;have HO207:=n1_;have HO212:=n2_;have HO216:=n3_;have HO221:=n4_;have HO225:=n5_;have BK198:=n6_;have BK213:=n7_;have HB:=n8_;clear n0_ n1_ n2_ n3_ n4_ n5_ n6_ n7_ n8_;(try clear hb);(try clear hb2);(try clear hk);(try clear hi);(try clear ho0);obtain ⟨Ao50,co50,eo50⟩:=Kd.R_slice HO225.out;subst eo50)|((with_reducible refine gate_callee (f:=14) rfl ?_);refine goesL_ (some 43) rfl rfl Tryd.func14 (by kernel_rfl) rfl #[.slice Ao43 t214.length co43,.slice Ao50 t223.length co50] rfl (by (try simp only [List.map_toArray,List.map_cons,List.map_nil]);first|done|rfl|(simp only [List.length_drop,List.length_take];rfl)) ?_;(with_reducible refine (laws_eqEventS.calls k _ _ t214 _ _ t223 true _ ?side1 ?side2 ?side3 ?side4 A24.out).mono ?_);(case side1=>repeat (first|exact (Kd.R_reads' HO216.out).2.2|(with_reducible refine Kd.C_alloc ?_ _)|(with_reducible refine Kd.C_drewN ?_ _)|(with_reducible refine Kd.C_drew ?_)));(case side2=>exact (Kd.R_reads' HO216.out).2.1);(case side3=>repeat (first|exact (Kd.R_reads' HO225.out).2.2|(with_reducible refine Kd.C_alloc ?_ _)|(with_reducible refine Kd.C_drewN ?_ _)|(with_reducible refine Kd.C_drew ?_)));(case side4=>exact (Kd.R_reads' HO225.out).2.1);rintro e w51 ⟨rfl,hb⟩;refine ⟨_,rfl,?_⟩;have n0_:=Aside0.mk (Kd.R_below (by (with_reducible repeat (first|apply Kd.R_alloc|apply Kd.R_drewN|apply Kd.R_drew));exact HO204.out) hb);have n1_:=Aside0.mk (Kd.R_below (by (with_reducible repeat (first|apply Kd.R_alloc|apply Kd.R_drewN|apply Kd.R_drew));exact HO207.out) hb);have n2_:=Aside0.mk (Kd.R_below (by (with_reducible repeat (first|apply Kd.R_alloc|apply Kd.R_drewN|apply Kd.R_drew));exact HO212.out) hb);have n3_:=Aside0.mk (Kd.R_below (by (with_reducible repeat (first|apply Kd.R_alloc|apply Kd.R_drewN|apply Kd.R_drew));exact HO216.out) hb);have n4_:=Aside0.mk (Kd.R_below (by (with_reducible repeat (first|apply Kd.R_alloc|apply Kd.R_drewN|apply Kd.R_drew));exact HO221.out) hb);have n5_:=Aside0.mk (Kd.R_below (by (with_reducible repeat (first|apply Kd.R_alloc|apply Kd.R_drewN|apply Kd.R_drew));exact HO225.out) hb);have n6_:=Aside0.mk (blk_below (g:=gb198) (o:=.cells #[.int .i64 a0_0,.slice A0_1 l0_1.length c0_1] 24 (0,0)) (by (with_reducible repeat (first|refine blk_drewN ?_ _|refine blk_drew ?_|refine blk_alloc ?_ _));exact BK198.out) hb);have n7_:=Aside0.mk (blk_below (g:=gb213) (o:=.cells #[.int .i64 t209,.slice Ao40 t210.length co40] 31 (0,0)) (by (with_reducible repeat (first|refine blk_drewN ?_ _|refine blk_drew ?_|refine blk_alloc ?_ _));exact BK213.out) hb);have n8_:=Aside0.mk (below_step (by repeat (first|(with_reducible first|exact HB.out|apply below_alloc|apply pw_below_drewN|apply below_drew1|refine below_set ?_ GE198.out|refine below_set ?_ GE213.out)|exact HB.out)) hb);clear HO204;clear HO207;clear HO212;clear HO216;clear HO221;clear HO225;clear BK198;clear BK213;clear HB;have HO204:=n0_;have HO207:=n1_;have HO212:=n2_;have HO216:=n3_;have HO221:=n4_;have HO225:=n5_;have BK198:=n6_;have BK213:=n7_;have HB:=n8_;clear n0_ n1_ n2_ n3_ n4_ n5_ n6_ n7_ n8_;(try clear hb);(try clear hb2);(try clear hk);(try clear hi)))
    go_ret
    exact ⟨by first|rfl|(simp [errW_none,errW_some] <;> rfl)|(simp [*,errW_none,errW_some] <;> rfl),by repeat (first|(with_reducible first|exact HB.out|apply below_alloc|apply pw_below_drewN|apply below_drew1|refine below_set ?_ GE198.out|refine below_set ?_ GE213.out)|exact HB.out)⟩
   replace c25:=Bool.eq_false_iff.mpr c25
   subst c25
   have H1:(some false)=some r:=by rw [if_neg (show ¬ (false=true) by decide)] at H;exact H
   clear H
   have H:=H1
   clear H1
   rw [HR_.out] at H
   cases H
  replace c22:=Bool.eq_false_iff.mpr c22
  subst c22
  have H1:(some false)=some r:=by rw [if_neg (show ¬ (false=true) by decide)] at H;exact H
  clear H
  have H:=H1
  clear H1
  rw [HR_.out] at H
  cases H
 rw [if_neg c19] at H
 have c19b0:(t217.toList==t208.toList)=false:=beq_eq_false_iff_ne.mpr c19
 have c19b1:(t217.toList != t208.toList)=true:=bne_iff_ne.mpr c19
 rw [HR_.out] at H
 cases H
end Go.Proofs.YtpdnabhpkdchjaaDoor.P
namespace Go.Proofs.YtpdnabhpkdchjaaDoor.P
open Go Go.RowKit Go.Proofs.YtpdnabhpkdchjaaDoorW.PrintWords Go.Proofs.YtpdnabhpkdchjaaDoorW.PrintLast Go.Proofs.YtpdnabhpkdchjaaDoorW.PrintMore
set_option linter.unusedVariables false
set_option linter.unusedSimpArgs false
abbrev bs (l : List UInt8) : ByteArray := ⟨l.toArray⟩
theorem bs_size (l : List UInt8) : (bs l).size = l.length := by simp [bs, ByteArray.size]
theorem bs_bytes (l : List UInt8) : bytesOf (bs l) = l.map (fun b => (b.toNat : Int)) := by simp [bytesOf, bs]
theorem nums_bs (l : List UInt8) : strOfNums (l.map (fun b => (b.toNat : Int))) = bs l := by
  apply ByteArray.ext
  have h : (fun b : UInt8 => UInt8.ofNat ((b.toNat : Int)).toNat) = id := by funext b; simp
  simp only [strOfNums, bs, List.map_map]
  rw [show ((fun n : Int => UInt8.ofNat n.toNat) ∘ fun b : UInt8 => (b.toNat : Int)) = id from h, List.map_id]
theorem words_eq (op : Int) (h : 1 ≤ op ∧ op ≤ 5) : rdOf ByteArray.empty [(⟨#[]⟩ : ByteArray), (⟨#[112, 97, 115, 115]⟩ : ByteArray), (⟨#[103, 104, 111, 115, 116]⟩ : ByteArray), (⟨#[100, 101, 97, 100]⟩ : ByteArray), (⟨#[97, 108, 105, 118, 101]⟩ : ByteArray), (⟨#[114, 101, 115, 101, 116]⟩ : ByteArray)] op = bs (wordB op.toNat) := by
  obtain rfl | rfl | rfl | rfl | rfl : op = 1 ∨ op = 2 ∨ op = 3 ∨ op = 4 ∨ op = 5 := by omega
  all_goals rfl
theorem line_f {op of dir : Int} (h : 1 ≤ op ∧ op ≤ 5) (ho : 0 ≤ of ∧ of ≤ 119) (hd : -1 ≤ dir ∧ dir ≤ 1) : spec_l4line.f op of dir = some (bs (wordB op.toNat ++ [32] ++ Lib.decDigits of.toNat ++ dirB dir)) := by
  have e1 : spec_l4decimal.f of = some (bs (Lib.decDigits of.toNat)) := if_pos ⟨ho.1, by omega⟩
  have hw := word_len op.toNat
  have hg := digits_len of.toNat
  unfold spec_l4line.f
  rw [show spec_l4words.f = some _ from rfl, Option.bind_some, if_pos (by omega), if_pos (by show op < ((6 : Nat) : Int); omega), words_eq op h, if_pos (by rw [bs_size]; omega), e1, Option.bind_some]
  have a1 : bs (wordB op.toNat) ++ (⟨#[32]⟩ : ByteArray) = bs (wordB op.toNat ++ [32]) := bytes_app _ [32]
  have a2 : bs (wordB op.toNat ++ [32]) ++ bs (Lib.decDigits of.toNat) = bs (wordB op.toNat ++ [32] ++ Lib.decDigits of.toNat) := bytes_app _ _
  rw [a1, if_pos (by rw [bs_size, bs_size, List.length_append, List.length_singleton]; omega), a2]
  have sz : (bs (wordB op.toNat ++ [32] ++ Lib.decDigits of.toNat)).size + 2 ≤ 9223372036854775807 := by rw [bs_size]; simp only [List.length_append, List.length_singleton]; omega
  obtain rfl | rfl | rfl : dir = 1 ∨ dir = -1 ∨ dir = 0 := by omega
  · rw [if_pos (by omega), if_pos sz, if_neg (by omega)]
    exact congrArg some (bytes_app _ [32, 43])
  · rw [if_neg (by omega), if_pos (by omega), if_pos sz]
    exact congrArg some (bytes_app _ [32, 45])
  · rw [if_neg (by omega), if_neg (by omega)]
    simp [dirB]
theorem lineB_len {op of dir : Int} (ho : 0 ≤ of ∧ of ≤ 119) : (lineB op of dir).length ≤ 130 := by
  have h1 := word_len op.toNat
  have h2 := digits_len of.toNat
  have h3 : (dirB dir).length ≤ 2 := by unfold dirB; split <;> (try split) <;> simp
  unfold lineB
  simp only [List.length_append, List.length_singleton]
  omega
theorem write_l0 (n : Int) (l : List S98) (es : List S52) (hes : es.length ≤ 2000) (d : Nat) : ∀ (i : Nat), i + d = es.length → evsOk n l (es.take i) = true → Ev (fun k => spec_WriteEvents.l0 k ((textB (es.take i)).map (fun b => (b.toNat : Int))) es (es.length : Int) i n l) (bs (writeE n l es)) := by
  induction d with
  | zero =>
    intro i hi hok
    obtain rfl : i = es.length := by omega
    rw [List.take_length] at hok ⊢
    refine Ev.step (f := fun _ => some (bs (writeE n l es))) (fun k => ?_) (Ev.now _)
    rw [spec_WriteEvents.l0, if_neg (by omega), List.length_map]
    by_cases hl : layoutOk n l = 0
    rotate_left
    · have he : es = [] := by
        rcases es with _ | ⟨e, es⟩
        · rfl
        · rw [evsOk, List.all_cons, Bool.and_eq_true] at hok
          exact absurd (ev_parts hok.1).1 hl
      subst he
      rw [if_neg (by simp [textB]), nums_bs, writeE, if_neg (fun h => hl h.1)]
      rfl
    by_cases hb : (textB es).length ≤ 20000
    · rw [if_neg (by omega), nums_bs, writeE, if_pos ⟨hl, hes, hok, hb⟩]
    · rw [if_pos (by omega), writeE, if_neg (fun h => hb h.2.2.2)]
  | succ d ih =>
    intro i hi hok
    have hil : i < es.length := by omega
    have hs := textB_snoc es i hil
    have ht := evsOk_take (n := n) (l := l) i hil
    rw [hok] at ht
    have hln := textB_len hok
    have htl : (es.take i).length ≤ 2000 := by rw [List.length_take]; omega
    have key : ∀ k, spec_WriteEvents.l0 (k + 1) ((textB (es.take i)).map (fun b => (b.toNat : Int))) es (es.length : Int) i n l = ((spec_EventOk.f k n l es[i].f0 es[i].f1 es[i].f2).bind fun t128 => (if t128 = true then ((spec_l4line.f es[i].f0 es[i].f1 es[i].f2).bind fun t129 => (if t129.size + 1 ≤ 9223372036854775807 then (if ((textB (es.take i)).map (fun b => (b.toNat : Int))).length + (t129 ++ (⟨#[10]⟩ : ByteArray)).size < 140737488355328 then (spec_WriteEvents.l0 k (((textB (es.take i)).map (fun b => (b.toNat : Int))) ++ bytesOf (t129 ++ (⟨#[10]⟩ : ByteArray))) es (es.length : Int) ((i + 1 : Nat) : Int) n l) else (none)) else (none))) else (some (⟨#[]⟩ : ByteArray)))) := by
      intro k
      rw [spec_WriteEvents.l0, if_pos (by omega), if_pos (by omega), if_pos (by omega), rd52 es i hil, wrap_succ (by omega)]
    refine Ev.step key ?_
    refine Ev.bind (specEventOk_ev n l _ _ _) ?_
    by_cases he : eventOk n l es[i].f0 es[i].f1 es[i].f2 = true
    · have hp := ev_parts he
      refine Ev.ite_pos he ?_
      refine Ev.call (line_f hp.2.1 hp.2.2.1 hp.2.2.2.1) ?_
      have hL := lineB_len (op := es[i].f0) (dir := es[i].f2) hp.2.2.1
      have e2 : bs (wordB es[i].f0.toNat ++ [32] ++ Lib.decDigits es[i].f1.toNat ++ dirB es[i].f2) ++ (⟨#[10]⟩ : ByteArray) = bs (evB es[i]) := bytes_app _ [10]
      have e3 : (bs (wordB es[i].f0.toNat ++ [32] ++ Lib.decDigits es[i].f1.toNat ++ dirB es[i].f2)).size + 1 = (evB es[i]).length := by
        rw [bs_size]; unfold evB lineB; simp only [List.length_append, List.length_singleton]
      rw [e2, e3, bs_size, bs_bytes, ← List.map_append, ← hs, List.length_map]
      have hL' : (evB es[i]).length ≤ 130 := hL
      refine Ev.ite_pos (by omega) (Ev.ite_pos (by omega) ?_)
      exact ih (i + 1) (by omega) (by rw [ht, he]; rfl)
    · have he' : eventOk n l es[i].f0 es[i].f1 es[i].f2 = false := by simpa using he
      refine Ev.ite_neg he ?_
      have hw : writeE n l es = [] := by
        rw [writeE, if_neg]
        rintro ⟨_, _, h3, _⟩
        rw [evsOk, List.all_eq_true] at h3
        have := h3 _ (List.getElem_mem hil)
        rw [he'] at this
        cases this
      rw [hw]
      exact Ev.now _
theorem specWrite_ev (n : Int) (l : List S98) (es : List S52) : Ev (fun k => spec_WriteEvents.f k n l es) (bs (writeE n l es)) := by
  unfold spec_WriteEvents.f
  by_cases h : es.length ≤ 2000
  · refine Ev.ite_neg (by omega) ?_
    have := write_l0 n l es h es.length 0 (by omega) (by simp [evsOk])
    simpa [textB] using this
  · refine Ev.ite_pos (by omega) ?_
    rw [writeE, if_neg (fun hh => h hh.2.1)]
    exact Ev.now _
theorem write_law_ev (n : Int) (l : List S100) (es : List S57) (hl : l.length ≤ 9223372036854775807) (hes : es.length ≤ 9223372036854775807) : Ev (fun k => laws_FnExactWriteEvents.f k n l es) true := by
  unfold laws_FnExactWriteEvents.f
  refine Ev.call (szLayout_eq n l 1048576 (by omega) (by omega) hl) ?_
  by_cases h : (1048576 : Int) < l.length
  · exact Ev.ite_pos (by rw [if_pos h]; omega) (Ev.now _)
  · refine Ev.ite_neg (by rw [if_neg h]; omega) ?_
    have hl2 : l.length ≤ 1048576 := by omega
    have hm : (l.map cvC).length = l.length := by simp
    rw [if_neg h]
    refine Ev.call (szEventS_eq es _ (by omega) (by omega) hes) ?_
    by_cases h2 : (1048576 : Int) - l.length < es.length
    · exact Ev.ite_pos (by rw [if_pos h2]; omega) (Ev.now _)
    · refine Ev.ite_neg (by rw [if_neg h2]; omega) ?_
      have hs : (es.map cvE).length = es.length := by simp
      refine Ev.bind (toLayout_ev n l hl2) ?_
      refine Ev.bind (toEventS_ev es (by omega)) ?_
      refine Ev.bind (specWrite_ev n _ _) ?_
      refine Ev.bind (toLayout_ev n l hl2) ?_
      refine Ev.bind (toEventS_ev es (by omega)) ?_
      refine Ev.call (a := bs (writeE n (l.map cvC) (es.map cvE))) rfl ?_
      refine Ev.ite_pos rfl ?_
      refine Ev.bind (toLayout_ev n l hl2) ?_
      refine Ev.bind (eqLayout_ev n (l.map cvC) (by omega)) (Ev.ite_pos rfl ?_)
      refine Ev.bind (toEventS_ev es (by omega)) ?_
      exact Ev.bind (eqEventS_ev _ (by omega)) (Ev.ite_pos rfl (Ev.now _))
theorem write_walk {T : Addr} {tc : Nat} (n : Int) (A : Option Addr) (c : Nat) (l : List S100) (A1 : Option Addr) (c1 : Nat) (es : List S57) (w : World) (hT : Tabs T tc w) (hr : Kd.C k100 w A l.length l) (hc : l.length ≤ c) (hr1 : Kd.C k57 w A1 es.length es) (hc1 : es.length ≤ c1) :
    Calls Tryd.prog 3 #[.agg #[.int .i64 n, .slice A l.length c], .slice A1 es.length c1] w fun e w' => e = .returned (.bool true) ∧ Below w.heap.size w w' := by
  obtain ⟨k, h⟩ := (write_law_ev n l es hr.2.1 hr1.2.1).rounds
  exact laws_FnExactWriteEvents.calls k n A c l A1 c1 es true w ⟨hT⟩ hr hc hr1 hc1 ⟨rfl⟩ h
end Go.Proofs.YtpdnabhpkdchjaaDoor.P
namespace Go.Proofs.YtpdnabhpkdchjaaDoor.P
open Go Go.RowKit Go.ChangeShapes Go.WideShapes Go.ChangeAt Go.WideElems
set_option linter.unusedVariables false
def laidL : List (String × DataW Unit) := [("math/bits.deBruijn32tab", Rows.laid_math_bits_deBruijn32tab), ("math/bits.deBruijn64tab", Rows.laid_math_bits_deBruijn64tab), ("internal/strconv.uint64pow10", Rows.laid_internal_strconv_uint64pow10), ("loop.example/treadle/impl.names", Rows.laid_loop_example_treadle_impl_names)]
theorem gNames : Tryd.prog.globalNamed "loop.example/treadle/impl.names" = some 0 := by kernel_rfl
theorem gPow : Tryd.prog.globalNamed "internal/strconv.uint64pow10" = some 2 := by kernel_rfl
theorem tNames : (Tryd.prog.globals[0]?).map (·.type) = some 77 := by kernel_rfl
theorem tPow : (Tryd.prog.globals[2]?).map (·.type) = some 132 := by kernel_rfl
theorem pow_data {H : Type} : (Rows.laid_internal_strconv_uint64pow10 : DataW H) = Lib.tabData .u64 Lib.pow10Tab := by kernel_rfl
theorem tabs_of_laid {W : World} (h : laidMetH Tryd.prog laidL W) : ∃ T tc, Tabs T tc W := by
  rw [MakeChecks.laidMetH_plain _ _ _ (by kernel_rfl)] at h
  have h2 := laidMet.tail (laidMet.tail h)
  have hT : Lib.TabIs Tryd.prog W "internal/strconv.uint64pow10" .u64 Lib.pow10Tab := by
    rw [pow_data] at h2
    exact Lib.tabIs_of_head gPow tPow Tryd.underlying132 Tryd.underlying90 (by kernel_rfl) (by kernel_rfl) h2
  obtain ⟨ps, ⟨g, t, cs, fuel, p, q, hg, ht, hv, hd, _, _⟩, _, hrows⟩ := laidMet.tail h2
  obtain rfl := Option.some.inj (gNames.symm.trans hg)
  obtain rfl := Option.some.inj (tNames.symm.trans ht)
  obtain ⟨a, cap, hcs, hcap, hel⟩ := open_row Tryd.underlying77 (by kernel_rfl) hd
  have hn := World.var?_cell gNames hv 0
  rw [Array.eq_one_of_toList hcs] at hn
  refine ⟨a, cap, by simpa using hn, fun i hi => ?_, hT⟩
  have key : ∀ l : List UInt8, ([DataW.lit (H := Unit) (.string []), .lit (.string [112, 97, 115, 115]), .lit (.string [103, 104, 111, 115, 116]), .lit (.string [100, 101, 97, 100]), .lit (.string [97, 108, 105, 118, 101]), .lit (.string [114, 101, 115, 101, 116])])[i]? = some (.lit (.string l)) → W.cell? (a.add i) = some (.string ⟨l.toArray⟩) := by
    intro l hl
    obtain ⟨v, n, q, hc, hr⟩ := hel i _ hl
    obtain ⟨s, hs, hx, _⟩ := DataW.trod_string Tryd.underlying9 hr
    obtain rfl : v = .string s := by simpa using hs
    rw [hc]
    have e : l = s.data.toList := by simpa using congrArg Prod.fst hx
    rw [e]
  apply key
  match i, hi with
  | 0, _ => rfl
  | 1, _ => rfl
  | 2, _ => rfl
  | 3, _ => rfl
  | 4, _ => rfl
  | 5, _ => rfl
theorem names_back {H : Type} {enc : TypeId × Value → H} {W W' : World} (hb : Below W.heap.size W W') {gs : List (DataW H)} {ps : List MemPlace} (h : DataW.TrodVars enc Tryd.prog W (fun _ => true) ["loop.example/treadle/impl.names"] gs ps) :
    ∃ pv, DataW.TrodVars enc Tryd.prog W' (fun b => decide (b < W.heap.size)) ["loop.example/treadle/impl.names"] gs pv := by
  have hlt := h.lt
  obtain ⟨g, t, cs, fuel, d, p, rfl, h1, h2, h3, h4, e⟩ := trodVars_one h
  obtain rfl := Option.some.inj (gNames.symm.trans h1)
  obtain rfl := Option.some.inj (tNames.symm.trans h2)
  have hp : ∀ x ∈ p, x.block < W.heap.size := fun x hx => hlt x (by rw [e]; exact List.mem_append_right _ hx)
  have h3' : W'.var? Tryd.prog "loop.example/treadle/impl.names" = some cs := by
    unfold World.var? at h3 ⊢
    rw [h1] at h3 ⊢
    simp only [Option.bind_some] at h3 ⊢
    have hg : 0 < W.heap.size := by
      cases hh : W.heap[0]? with
      | none => rw [hh] at h3; cases h3
      | some o => exact (Array.getElem?_eq_some_iff.1 hh).1
    rw [hb.block 0 hg]
    exact h3
  exact ⟨_, trodVars_mk1 h1 h2 h3' (DataW.trod_stays (kids_book Facts.laidOut (by kernel_rfl)) (book_sized (by kernel_rfl)) (fun h => by cases h) ⟨of_decide_eq_true (by kernel_rfl), book_self _⟩ h4 (fun x hx => hb.same (hp x hx)) (fun x hx => by simpa using hp x hx))⟩
theorem door_met (os : Os) (args : Array Value) : laidMetH Tryd.prog laidL ((World.doorLaid Tryd.prog 4000 os).forCall (fun _ _ => 0) ⟨#[], args, []⟩).memory :=
  laidMetH_of_parts3 (fuel := 8) (laidMet_of_run' 8 (by kernel_rfl) (by kernel_rfl)) (by kernel_rfl) (by kernel_rfl)
end Go.Proofs.YtpdnabhpkdchjaaDoor.P
namespace Go.Proofs.YtpdnabhpkdchjaaDoor.fnExactWriteEvents
open Go.ChangeShapes Go.WideShapes Go.ChangeAt Go.RowKit Go.Proofs.YtpdnabhpkdchjaaDoor.Open Go.Proofs.YtpdnabhpkdchjaaDoor.P
set_option linter.unusedVariables false
set_option maxRecDepth 100000 in
theorem lifted (os : Os) (started : os.Started) (H : Type) (enc : TypeId × Value → H) :
    ReturnsInHanded {} Tryd.checked os 3 .any (fun w args => (Rows.fnExactWriteEventsSpec.pre enc Tryd.prog Tryd.f3 [] false w args ∧ laidMetH Tryd.prog laidL w) ∧ sizedMet enc Tryd.prog Tryd.f3 (OpenSpec.ofChange Rows.fnExactWriteEventsSpec) false w args) (Rows.fnExactWriteEventsSpec.post enc Tryd.prog Tryd.f3 false true false false) := by
  refine returnsInHanded_of_change_and (C := Tryd.checked) (X := fun w _ => laidMetH Tryd.prog laidL w) (fun _ _ _ hh h => h.of_heap hh) Facts.own started (by kernel_rfl) Tryd.func3
    (ChangeSpec.witness_shaped (enc := enc) (C := Tryd.checked) (os := os) (X := fun w _ => laidMetH Tryd.prog laidL w) false (World.doorLaid Tryd.prog 4000 os) #[.agg #[.int .i64 0, .slice none 0 0], .slice none 0 0] 8 rfl (World.shaped_of_RefB (by kernel_rfl) (by kernel_rfl)) (by kernel_rfl) (by kernel_rfl) (by kernel_rfl) (door_met os _)) ?_
  intro W base args ds gs before hval0 hW hcnd hsz0 hL _
  have hval : ∀ (j : Nat) t v, Tryd.f3.params[j]? = some t → args[j]? = some v → Value.okWide Tryd.prog W .any base t v := hval0
  have hW' := hW
  obtain ⟨p, q, hA0, hV, rfl, hfz, hnd⟩ := hW
  obtain ⟨g, gt, gcs, gf, dg, gp, rfl, hg1, hg2, hg3, hg4, hg5⟩ := trodVars_one hV
  have hA : DataW.TrodAll enc Tryd.prog W 0 (fun _ => true) true Tryd.f3.params.toList args.toList ds p := hA0
  rw [Tryd.params3] at hA hval
  obtain ⟨v0, vs0, d0, ds0, p0, q0, hargs, rfl, rfl, h0, r0⟩ := trodAll_cons hA
  obtain ⟨v1, vs1, d1, ds1, p1, q1, rfl, rfl, rfl, h1, r1⟩ := trodAll_cons r0
  obtain ⟨rfl, rfl, rfl⟩ := trodAll_nil r1
  obtain rfl : args = #[v0, v1] := by cases args; simp_all
  obtain ⟨T, tc, hT⟩ := tabs_of_laid hL
  have k0 := h0
  have lt0 : ∀ x ∈ p0, x.block < W.heap.size := by obtain ⟨m, hm⟩ := k0; exact DataW.trod_lt m _ _ _ hm
  obtain ⟨n0, A0, c0, l0, rfl, hr0, hc0⟩ := arg_layout (hval 0 24 v0 rfl rfl) h0
  have k1 := h1
  have lt1 : ∀ x ∈ p1, x.block < W.heap.size := by obtain ⟨m, hm⟩ := k1; exact DataW.trod_lt m _ _ _ hm
  obtain ⟨A1, c1, l1, rfl, hr1, hc1⟩ := arg_slice Tryd.underlying25 oEvents (hval 1 25 v1 rfl rfl) h1
  clear hA0 hval0 hsz0
  refine (P.write_walk n0 A0 c0 l0 A1 c1 l1 W hT hr0 hc0 hr1 hc1).mono fun e W' ⟨he, bel⟩ => ?_
  subst he
  obtain ⟨pv, hpv⟩ := names_back bel hV
  exact ⟨_, rfl, _, _, _, [], _, _, hW', trodAll_mk1 (shut_bool Tryd.underlying4 _), (trodAll_cons_mk (Below.trod Facts.laidOut (by kernel_rfl) (of_decide_eq_true (by kernel_rfl)) k0 bel lt0) (trodAll_cons_mk (Below.trod Facts.laidOut (by kernel_rfl) (of_decide_eq_true (by kernel_rfl)) k1 bel lt1) trodAll_mk0)), hpv, bel.frame _, fun h => by cases h⟩
theorem k10 : (Rows.fnExactWriteEventsRow.inPlace == Tryd.prog.inPlace 3) = true := by kernel_rfl
theorem k11 : (Rows.fnExactWriteEventsRow.unfollowed == Tryd.prog.unfollowed 3) = true := by kernel_rfl
theorem k12 : (Rows.fnExactWriteEventsRow.recurses == Tryd.prog.recurses 3) = true := by kernel_rfl
theorem k13 : (Rows.fnExactWriteEventsRow.named == Tryd.prog.varsNamed 3) = true := by kernel_rfl
theorem over : Rows.fnExactWriteEventsRow.holds Tryd.pinned (OpenSpec.ofChange Rows.fnExactWriteEventsSpec) :=
  OpenClaim.holds_of_wide 3 Tryd.f3 rfl rfl rfl rfl rfl rfl rfl ⟨rfl, rfl, rfl, rfl, rfl⟩ rfl rfl rfl rfl rfl (by kernel_rfl) Tryd.func3
    (joined_of 3 Tryd.f3 Rows.fnExactWriteEventsSpec Rows.fnExactWriteEventsRow (by kernel_rfl) (by kernel_rfl) (by kernel_rfl) rfl rfl Facts.stopKnobs k10 k11 k12 k13 (by kernel_rfl) (by kernel_rfl) (by kernel_rfl) (by kernel_rfl) (by kernel_rfl) (by kernel_rfl) (by kernel_rfl) (by kernel_rfl) (by kernel_rfl) rfl rfl rfl rfl rfl rfl (by kernel_rfl) (by kernel_rfl) (by kernel_rfl))
    (of_decide_eq_true (by kernel_rfl)) (by unfold Func.isWrapper; rw [if_neg (by decide +kernel)]; exact ⟨rfl, rfl⟩)
    (fun os started H enc _ => lifted os started H enc)
theorem proved : Rows.FnExactWriteEventsSaid := over
end Go.Proofs.YtpdnabhpkdchjaaDoor.fnExactWriteEvents
namespace Go.Proofs.YtpdnabhpkdchjaaDoor
theorem fnExactWriteEventsCard_holds : Rows.FnExactWriteEventsCardSaid :=
  Claim7.holds_tied_plain_at .later [] [.data, .data, .data, .data] true (true, "3535572eedccaf819ec62b2d03865cafaa398ae32f8b1aa05a99bb5a0e86f2eb") false
    fnExactWriteEvents.proved (fun _ h => by cases h) (by kernel_rfl) (fun _ h => by cases h) fnExactWriteEvents_row_tie rfl ⟨rfl, rfl⟩ (by kernel_rfl) rfl
    (fun f fn hf hfn => by
      obtain rfl : f = 3 := Option.some.inj ((show Tryd.prog.funcNamed "loop.example/treadle/laws.FnExactWriteEvents" = some 3 by kernel_rfl).symm.trans hf) |>.symm
      obtain rfl : fn = Tryd.f3 := (Option.some.inj (Tryd.func3.symm.trans hfn)).symm
      exact ⟨by kernel_rfl, fun j t ht => by
        rw [Tryd.params3] at ht
        rcases j with _ | _ | j
        · obtain rfl : 24 = t := by simpa using ht
          kernel_rfl
        · obtain rfl : 25 = t := by simpa using ht
          kernel_rfl
        · simp at ht⟩)
    (by kernel_rfl)
#print axioms fnExactWriteEventsCard_holds
end Go.Proofs.YtpdnabhpkdchjaaDoor
