/- The statement FnExactAnswerCardSaid holds of the given program, for every argument; there are no conditions. (Part 6 of 6.) -/
import Derived.Test.YtpdnabhpkdchjaaDoorBFnExactAnswer5
import Derived.LaidMore
import Derived.Stop.LaidErr
import Derived.Lib.LaidTab
import Derived.Stop.Joined
import Derived.LaidLaws
import Derived.ChangeVars
import Derived.Test.YtpdnabhpkdchjaaDoorTie
import Derived.Test.YtpdnabhpkdchjaaDoorCards
import Derived.SevenTiedAt
import Derived.ChangeMaps5
import Derived.ShutString
namespace Go.Proofs.YtpdnabhpkdchjaaDoor.P
open Go.RowKit Go.Proofs.YtpdnabhpkdchjaaDoorW.PrintWords Go.Proofs.YtpdnabhpkdchjaaDoorW.PrintLast Go.Proofs.YtpdnabhpkdchjaaDoorW.PrintMore
attribute [local go_sem ↓] Go.wp_at_zero Go.wp_at_succ
set_option linter.unusedVariables false
set_option linter.unusedSimpArgs false
def sd_T38:Bool × List (List Nat × List Nat):=(true,[([],[]),([0],[0]),([],[]),([],[]),([],[]),([4],[4]),([],[]),([],[]),([7],[7]),([],[]),([8,9],[8,9]),([10],[10]),([3,5,6,11],[3,5,6,11]),([1,2,0,1,2,3,4,5,6,7,8,9,10,11,12],[1,2]),([13,0,1,2,3,4,5,6,7,8,9,10,11,12],[13]),([14,12,12,0,1,2,3,4,5,6,7,8,9,10,11,12],[12,14])])
def sd_B38:List Nat:=[0,1,0,0,0,16,0,0,128,0,896,1920,4088,8191,16383,32767]
theorem sd_tab38:rtab .any (opsOf Tryd.f59 38)=sd_T38:=by kernel_rfl
theorem sd_bits38:waitsOk sd_T38.2 sd_B38=true:=by kernel_rfl
structure SpSt (w0 w:World) (gl gz go ge gd:Nat) (lv zv sv ev dv:List Value) (v1 v2:Value) (ss:List S87) (dd:List Bool):Prop where
 D:DoSt w0 w gl go ge gd lv sv ev dv v1 v2 ss dd
 hz:w.heap[gz]?=some (.cells zv.toArray 83 (0,0))
section
variable {w0 w w' : World} {gl gz go ge gd : Nat} {lv zv sv ev dv : List Value} {v1 v2 : Value} {ss ss' : List S87} {dd dd' : List Bool}
theorem SpSt.up (h:SpSt w0 w gl gz go ge gd lv zv sv ev dv v1 v2 ss dd) (hb:Below w.heap.size w w'):SpSt w0 w' gl gz go ge gd lv zv sv ev dv v1 v2 ss dd:=⟨h.D.up hb,blk_below h.hz hb⟩
theorem SpSt.sec {gr m cr:Nat} (h:SpSt w0 w gl gz go ge gd lv zv sv ev dv (.slice (some ⟨gr,0,none⟩) m cr) v2 ss dd) (H1:Kd.R k87 87 w' w0.heap.size (fun _=>True) (.slice (some ⟨gr,0,none⟩) m cr) ss') (hg:w.grownBy w' (some gr)) :
  SpSt w0 w' gl gz go ge gd lv zv sv ev dv (.slice (some ⟨gr,0,none⟩) m cr) v2 ss' dd:=⟨h.D.sec H1 hg,blk_grown h.hz hg (Kd.R_ne h.D.H1 h.hz (by decide))⟩
theorem SpSt.dead {gb m cb:Nat} (h:SpSt w0 w gl gz go ge gd lv zv sv ev dv v1 (.slice (some ⟨gb,0,none⟩) m cb) ss dd) (i:Int) (x:Bool) :
  SpSt w0 (w.setCell ⟨gb,i.toNat,none⟩ (.bool x)) gl gz go ge gd lv zv sv ev dv v1 (.slice (some ⟨gb,0,none⟩) m cb) ss (dd.set i.toNat x) :=
 ⟨h.D.dead i x,blk_grown h.hz (Kd.R_putg h.D.H2 i x).2 (Kd.R_ne h.D.H2 h.hz (by decide))⟩
end
theorem in_any (s:Int) (bo:Bool) (g gr n c:Nat) (v2:Value) (l:List S87) (w:World) (base:Nat) (ok:Nat→Prop) (h1:s<n)
  (hb:w.heap[g]?=some (.cells #[.bool bo,.slice (some ⟨gr,0,none⟩) n c,v2] 83 (0,0))) (HO:Kd.R k87 87 w base ok (.slice (some ⟨gr,0,none⟩) n c) l) :
  Calls Tryd.prog 70 #[.pointer (some ⟨g,0,none⟩),.int .i64 s,.int .i64 1] w fun e w'=>e=.returned (.tuple #[])∧Kd.R k87 87 w' base ok (.slice (some ⟨gr,0,none⟩) n c) (addS l s 1)∧w.grownBy w' (some gr):=by
 by_cases h0:s<0
 ·refine (add_none s 1 _ w h0).mono ?_
  rintro e w' ⟨he,rfl⟩
  exact ⟨he,by rw [addS,if_pos h0];exact HO,World.grownBy.refl w _⟩
 rw [addS,if_neg h0]
 exact add_in s bo g gr n c v2 l w base ok (by omega) h1 hb HO
theorem out_any (s:Int) (bo:Bool) (g gr n c:Nat) (v2:Value) (l:List S87) (w:World) (base:Nat) (ok:Nat→Prop) (h1:s<n)
  (hb:w.heap[g]?=some (.cells #[.bool bo,.slice (some ⟨gr,0,none⟩) n c,v2] 83 (0,0))) (HO:Kd.R k87 87 w base ok (.slice (some ⟨gr,0,none⟩) n c) l) :
  Calls Tryd.prog 70 #[.pointer (some ⟨g,0,none⟩),.int .i64 s,.int .i64 (-1)] w fun e w'=>e=.returned (.tuple #[])∧Kd.R k87 87 w' base ok (.slice (some ⟨gr,0,none⟩) n c) (addS l s (-1))∧w.grownBy w' (some gr):=by
 by_cases h0:s<0
 ·refine (add_none s (-1) _ w h0).mono ?_
  rintro e w' ⟨he,rfl⟩
  exact ⟨he,by rw [addS,if_pos h0];exact HO,World.grownBy.refl w _⟩
 rw [addS,if_neg h0]
 exact add_out s bo g gr n c v2 l w base ok (by omega) h1 hb HO
section
variable {n : Int} {A : Option Addr} {c : Nat} {l : List S98} {b : Bool} {A1 : Option Addr} {c1 : Nat} {ss : List S87} {A2 : Option Addr} {c2 : Nat} {dd : List Bool} {w : World}
theorem sev_at {v:Bool} (op of dir:Int) (hv:eventOk n l op of dir=v) (hr:Kd.C k98 w A l.length l) (hc:l.length≤c):Calls Tryd.prog 26 #[.agg #[.int .i64 n,.slice A l.length c],.agg #[.int .i64 op,.int .i64 of,.int .i64 dir]] w fun e w'=>e=.returned (.bool v)∧Below w.heap.size w w':=hv ▸ sev_is op of dir hr hc
theorem sdead_at {x:Bool} (i:Int) (hx:deadAt l dd i=x) (hr:Kd.C k98 w A l.length l) (hc:l.length≤c) (hr2:Kd.C Kd.bool w A2 dd.length dd) (hc2:dd.length≤c2) (hl:layoutOk n l=0) (h0:0≤i) (h1:i<n) (hd:dd.length=l.length) :
  Calls Tryd.prog 71 #[.agg #[.int .i64 n,.slice A l.length c],.slice A2 dd.length c2,.int .i64 i] w fun e w'=>e=.returned (.bool x)∧Below w.heap.size w w':=by
 obtain ⟨k,h⟩:=(specDead_ev n l dd i hl ⟨h0,h1⟩ hd).rounds
 rw [← hx]
 exact spec_l2dead.calls k n A c l A2 c2 dd i _ w hr hc hr2 hc2 h
theorem stold_of {m2 b2:Nat} {o2:Nat→Prop} (i:Int) (x:S87) (hr:Kd.C k98 w A l.length l) (hc:l.length≤c) (H2:Kd.R Kd.bool 4 w b2 o2 (.slice A2 m2 c2) dd) (e2:m2=dd.length) (hl:layoutOk n l=0) (h0:0≤i) (h1:i<n) (hd:dd.length=l.length) :
  Calls Tryd.prog 72 #[.agg #[.int .i64 n,.slice A l.length c],.slice A2 m2 c2,.int .i64 i,.agg #[.int .i64 x.f0,.int .i64 x.f1,.bool x.f2,.bool x.f3,.int .i64 x.f4]] w fun e w'=>e=.returned (.int .i64 (toldC l dd i x))∧Below w.heap.size w w':=by
 subst e2
 obtain ⟨k,h⟩:=(specTold_ev n l dd i x hl ⟨h0,h1⟩ hd).rounds
 exact spec_l2told.calls k n A c l A2 c2 dd i x.f0 x.f1 x.f2 x.f3 x.f4 _ w hr hc (Kd.R_reads' H2).2.2 (Kd.R_reads' H2).2.1 h
end
def loseTo (ss:List S87) (f t:Int):Nat→List S87
 | 0=>ss
 | 1=>loseAt ss f
 | _=>loseAt (loseAt ss f) t
set_option maxHeartbeats 4000000 in
set_option maxRecDepth 100000 in
theorem sdo_badE (n:Int) (A:Option Addr) (c:Nat) (l:List S98) (b:Bool) (A1:Option Addr) (c1:Nat) (ss:List S87) (A2:Option Addr) (c2:Nat) (dd:List Bool) (op of dir:Int) (w:World)
  (hr:Kd.C k98 w A l.length l) (hc:l.length≤c) (hr1:Kd.C k87 w A1 ss.length ss) (hc1:ss.length≤c1) (hr2:Kd.C Kd.bool w A2 dd.length dd) (hc2:dd.length≤c2) (hst:stateOk n l b ss dd=true) (hev:eventOk n l op of dir=false) :
  Calls Tryd.prog 59 #[.agg #[.int .i64 n,.slice A l.length c],.agg #[.bool b,.slice A1 ss.length c1,.slice A2 dd.length c2],.agg #[.int .i64 op,.int .i64 of,.int .i64 dir]] w fun e w'=>e=.returned (.agg #[.int .i64 1,.bool false,.slice none 0 0,.slice none 0 0])∧Below w.heap.size w w':=by
 have HR:=Aside0.mk hr
 have HR1:=Aside0.mk hr1
 have HR2:=Aside0.mk hr2
 clear hr hr1 hr2
 go_enter Tryd.func59,Tryd.ntmps59
 go_upto_region 1 with (first|((with_reducible refine gate_dst (N:=3) rfl ?_);refine box_event ?hg (N:=3) ?hd (cs:=#[.int .i64 n,.slice A l.length c]) (t:=31) ?hr ?_;(case hd=>rfl);(case hg=>rfl);(case hr=>first|(go_simp;done)|(go_simp;rfl));intro gl el wl kl bl)|((with_reducible refine gate_dst (N:=4) rfl ?_);refine box_event ?hg (N:=4) ?hd (cs:=#[.bool b,.slice A1 ss.length c1,.slice A2 dd.length c2]) (t:=83) ?hr ?_;(case hd=>rfl);(case hg=>rfl);(case hr=>first|(go_simp;done)|(go_simp;rfl));intro gz ez wz kz bz)|((with_reducible refine gate_dst (N:=5) rfl ?_);refine box_event ?hg (N:=5) ?hd (cs:=#[.int .i64 op,.int .i64 of,.int .i64 dir]) (t:=52) ?hr ?_;(case hd=>rfl);(case hg=>rfl);(case hr=>first|(go_simp;done)|(go_simp;rfl));intro ge ee we ke be)|((with_reducible refine gate_dst (N:=6) rfl ?_);refine box_event ?hg (N:=6) ?hd (cs:=#[.int .i64 0,.bool false,.slice none 0 0,.slice none 0 0]) (t:=85) ?hr ?_;(case hd=>rfl);(case hg=>rfl);(case hr=>first|(go_simp;done)|(go_simp;rfl));intro gd ed wd kd_ bd))
 have KL:=Aside0.mk (blk_below (blk_below (blk_below kl bz) be) bd)
 have KZ:=Aside0.mk (blk_below (blk_below kz be) bd)
 have KE:=Aside0.mk (blk_below ke bd)
 have KD:=Aside0.mk kd_
 have BB:=Aside0.mk (below_step (below_step (below_step bl bz) be) bd)
 have GL:=Aside0.mk (show w.heap.size≤gl by rw [el];exact Nat.le_refl _)
 have GZ:=Aside0.mk (show w.heap.size≤gz by rw [ez];exact bl.size)
 have GE:=Aside0.mk (show w.heap.size≤ge by rw [ee];exact (below_step bl bz).size)
 have GD:=Aside0.mk (show w.heap.size≤gd by rw [ed];exact (below_step (below_step bl bz) be).size)
 clear kl kz ke kd_ bl bz be bd el ez ee ed
 simp only [Act.put,List.setIfInBounds_toArray,List.set_cons_zero,List.set_cons_succ]
 have kl0:wd.cell? ⟨gl,0,none⟩=some (.int .i64 n):=(blk_cell KL.out 0).trans rfl
 have kl1:wd.cell? ⟨gl,1,none⟩=some (.slice A l.length c):=(blk_cell KL.out 1).trans rfl
 have kz0:wd.cell? ⟨gz,0,none⟩=some (.bool b):=(blk_cell KZ.out 0).trans rfl
 have kz1:wd.cell? ⟨gz,1,none⟩=some (.slice A1 ss.length c1):=(blk_cell KZ.out 1).trans rfl
 have kz2:wd.cell? ⟨gz,2,none⟩=some (.slice A2 dd.length c2):=(blk_cell KZ.out 2).trans rfl
 have ke0:wd.cell? ⟨ge,0,none⟩=some (.int .i64 op):=(blk_cell KE.out 0).trans rfl
 have ke1:wd.cell? ⟨ge,1,none⟩=some (.int .i64 of):=(blk_cell KE.out 1).trans rfl
 have ke2:wd.cell? ⟨ge,2,none⟩=some (.int .i64 dir):=(blk_cell KE.out 2).trans rfl
 have kd0:wd.cell? ⟨gd,0,none⟩=some (.int .i64 0):=(blk_cell KD.out 0).trans rfl
 have kd1:wd.cell? ⟨gd,1,none⟩=some (.bool false):=(blk_cell KD.out 1).trans rfl
 have kd2:wd.cell? ⟨gd,2,none⟩=some (.slice none 0 0):=(blk_cell KD.out 2).trans rfl
 have kd3:wd.cell? ⟨gd,3,none⟩=some (.slice none 0 0):=(blk_cell KD.out 3).trans rfl
 have zd0:=blk_frozen KD.out 0
 have zd1:=blk_frozen KD.out 1
 have zd2:=blk_frozen KD.out 2
 have zd3:=blk_frozen KD.out 3
 go_wp2_with (first|(go_at_call 69;refine (sst_ok hst (Kd.C_below HR.out BB.out) hc (Kd.C_below HR1.out BB.out) hc1 (Kd.C_below HR2.out BB.out) hc2).mono ?_;rintro e w1 ⟨rfl,hb⟩;have KL:=Aside0.mk (blk_below KL.out hb);have KZ:=Aside0.mk (blk_below KZ.out hb);have KE:=Aside0.mk (blk_below KE.out hb);have KD:=Aside0.mk (blk_below KD.out hb);have BB:=Aside0.mk (below_step BB.out hb);clear hb;have kl0:w1.cell? ⟨gl,0,none⟩=some (.int .i64 n):=(blk_cell KL.out 0).trans rfl;have kl1:w1.cell? ⟨gl,1,none⟩=some (.slice A l.length c):=(blk_cell KL.out 1).trans rfl;have kz0:w1.cell? ⟨gz,0,none⟩=some (.bool b):=(blk_cell KZ.out 0).trans rfl;have kz1:w1.cell? ⟨gz,1,none⟩=some (.slice A1 ss.length c1):=(blk_cell KZ.out 1).trans rfl;have kz2:w1.cell? ⟨gz,2,none⟩=some (.slice A2 dd.length c2):=(blk_cell KZ.out 2).trans rfl;have ke0:w1.cell? ⟨ge,0,none⟩=some (.int .i64 op):=(blk_cell KE.out 0).trans rfl;have ke1:w1.cell? ⟨ge,1,none⟩=some (.int .i64 of):=(blk_cell KE.out 1).trans rfl;have ke2:w1.cell? ⟨ge,2,none⟩=some (.int .i64 dir):=(blk_cell KE.out 2).trans rfl;have kd0:w1.cell? ⟨gd,0,none⟩=some (.int .i64 0):=(blk_cell KD.out 0).trans rfl;have kd1:w1.cell? ⟨gd,1,none⟩=some (.bool false):=(blk_cell KD.out 1).trans rfl;have kd2:w1.cell? ⟨gd,2,none⟩=some (.slice none 0 0):=(blk_cell KD.out 2).trans rfl;have kd3:w1.cell? ⟨gd,3,none⟩=some (.slice none 0 0):=(blk_cell KD.out 3).trans rfl;have zd0:=blk_frozen KD.out 0;have zd1:=blk_frozen KD.out 1;have zd2:=blk_frozen KD.out 2;have zd3:=blk_frozen KD.out 3)|(go_at_call 26;refine (sev_at op of dir hev (Kd.C_below HR.out BB.out) hc).mono ?_;rintro e w2 ⟨rfl,hb⟩;have KL:=Aside0.mk (blk_below KL.out hb);have KZ:=Aside0.mk (blk_below KZ.out hb);have KE:=Aside0.mk (blk_below KE.out hb);have KD:=Aside0.mk (blk_below KD.out hb);have BB:=Aside0.mk (below_step BB.out hb);clear hb;have kl0:w2.cell? ⟨gl,0,none⟩=some (.int .i64 n):=(blk_cell KL.out 0).trans rfl;have kl1:w2.cell? ⟨gl,1,none⟩=some (.slice A l.length c):=(blk_cell KL.out 1).trans rfl;have kz0:w2.cell? ⟨gz,0,none⟩=some (.bool b):=(blk_cell KZ.out 0).trans rfl;have kz1:w2.cell? ⟨gz,1,none⟩=some (.slice A1 ss.length c1):=(blk_cell KZ.out 1).trans rfl;have kz2:w2.cell? ⟨gz,2,none⟩=some (.slice A2 dd.length c2):=(blk_cell KZ.out 2).trans rfl;have ke0:w2.cell? ⟨ge,0,none⟩=some (.int .i64 op):=(blk_cell KE.out 0).trans rfl;have ke1:w2.cell? ⟨ge,1,none⟩=some (.int .i64 of):=(blk_cell KE.out 1).trans rfl;have ke2:w2.cell? ⟨ge,2,none⟩=some (.int .i64 dir):=(blk_cell KE.out 2).trans rfl;have kd0:w2.cell? ⟨gd,0,none⟩=some (.int .i64 0):=(blk_cell KD.out 0).trans rfl;have kd1:w2.cell? ⟨gd,1,none⟩=some (.bool false):=(blk_cell KD.out 1).trans rfl;have kd2:w2.cell? ⟨gd,2,none⟩=some (.slice none 0 0):=(blk_cell KD.out 2).trans rfl;have kd3:w2.cell? ⟨gd,3,none⟩=some (.slice none 0 0):=(blk_cell KD.out 3).trans rfl;have zd0:=blk_frozen KD.out 0;have zd1:=blk_frozen KD.out 1;have zd2:=blk_frozen KD.out 2;have zd3:=blk_frozen KD.out 3))
 have KF:=blk_put (blk_put (blk_put (blk_put KD.out 0 (.int .i64 1) rfl) 1 (.bool false) rfl) 2 (.slice none 0 0) rfl) 3 (.slice none 0 0) rfl
 have BF:=below_set (j:=3) (v:=.slice none 0 0) (below_set (j:=2) (v:=.slice none 0 0) (below_set (j:=1) (v:=.bool false) (below_set (j:=0) (v:=.int .i64 1) BB.out GD.out) GD.out) GD.out) GD.out
 exact bodyPost_ret (results_cell_row rfl _ _ gd 85 _ (0,0) _ rfl KF Tryd.underlying85 rfl (by kernel_rfl)) rfl ⟨rfl,BF⟩
set_option maxHeartbeats 16000000 in
set_option maxRecDepth 100000 in
theorem sdo_is (n:Int) (A:Option Addr) (c:Nat) (l:List S98) (b:Bool) (A1:Option Addr) (c1:Nat) (ss:List S87) (A2:Option Addr) (c2:Nat) (dd:List Bool) (op of dir:Int) (w:World)
  (hr:Kd.C k98 w A l.length l) (hc:l.length≤c) (hr1:Kd.C k87 w A1 ss.length ss) (hc1:ss.length≤c1) (hr2:Kd.C Kd.bool w A2 dd.length dd) (hc2:dd.length≤c2)
  (hst:stateOk n l b ss dd=true) (hev:eventOk n l op of dir=true) :
  Calls Tryd.prog 59 #[.agg #[.int .i64 n,.slice A l.length c],.agg #[.bool b,.slice A1 ss.length c1,.slice A2 dd.length c2],.agg #[.int .i64 op,.int .i64 of,.int .i64 dir]] w fun e w'=>∃ v2_ v3_:Value,e=.returned (.agg #[.int .i64 (doCode l ss dd op of),.bool true,v2_,v3_])∧Kd.R k87 87 w' w.heap.size (fun _=>True) v2_ (doSecs l ss dd op of dir)∧Kd.R Kd.bool 4 w' w.heap.size (fun _=>True) v3_ (doDead l ss dd op of)∧Below w.heap.size w w':=by
 obtain ⟨hl,rfl,hns,hnd,hsec⟩:=stateOk_of hst
 have hn:=lay_n hl
 have hs:ss.length≤1048576:=by omega
 have hd:dd.length≤1048576:=by omega
 have hpos:0<ss.length:=by omega
 have HST:=Aside0.mk hst
 have HEV:=Aside0.mk hev
 have HSE:=Aside0.mk hsec
 have HN:=Aside0.mk (And.intro hl (And.intro hns (And.intro hnd hn)))
 clear hst hev hsec hl hns hnd hn
 have HR:=Aside0.mk hr
 have HR1:=Aside0.mk hr1
 have HR2:=Aside0.mk hr2
 clear hr hr1 hr2
 go_enter Tryd.func59,Tryd.ntmps59
 go_upto_region 1 with (first|((with_reducible refine gate_dst (N:=3) rfl ?_);refine box_event ?hg (N:=3) ?hd (cs:=#[.int .i64 n,.slice A l.length c]) (t:=31) ?hr ?_;(case hd=>rfl);(case hg=>rfl);(case hr=>first|(go_simp;done)|(go_simp;rfl));intro gl el wl kl bl)|((with_reducible refine gate_dst (N:=4) rfl ?_);refine box_event ?hg (N:=4) ?hd (cs:=#[.bool true,.slice A1 ss.length c1,.slice A2 dd.length c2]) (t:=83) ?hr ?_;(case hd=>rfl);(case hg=>rfl);(case hr=>first|(go_simp;done)|(go_simp;rfl));intro gz ez wz kz bz)|((with_reducible refine gate_dst (N:=5) rfl ?_);refine box_event ?hg (N:=5) ?hd (cs:=#[.int .i64 op,.int .i64 of,.int .i64 dir]) (t:=52) ?hr ?_;(case hd=>rfl);(case hg=>rfl);(case hr=>first|(go_simp;done)|(go_simp;rfl));intro ge ee we ke be)|((with_reducible refine gate_dst (N:=6) rfl ?_);refine box_event ?hg (N:=6) ?hd (cs:=#[.int .i64 0,.bool false,.slice none 0 0,.slice none 0 0]) (t:=85) ?hr ?_;(case hd=>rfl);(case hg=>rfl);(case hr=>first|(go_simp;done)|(go_simp;rfl));intro gd ed wd kd_ bd))
 have KL:=Aside0.mk (blk_below (blk_below (blk_below kl bz) be) bd)
 have KZ:=Aside0.mk (blk_below (blk_below kz be) bd)
 have KE:=Aside0.mk (blk_below ke bd)
 have KD:=Aside0.mk kd_
 have BB:=Aside0.mk (below_step (below_step (below_step bl bz) be) bd)
 have GL:=Aside0.mk (show w.heap.size≤gl by rw [el];exact Nat.le_refl _)
 have GZ:=Aside0.mk (show w.heap.size≤gz by rw [ez];exact bl.size)
 have GE:=Aside0.mk (show w.heap.size≤ge by rw [ee];exact (below_step bl bz).size)
 have GD:=Aside0.mk (show w.heap.size≤gd by rw [ed];exact (below_step (below_step bl bz) be).size)
 clear kl kz ke kd_ bl bz be bd el ez ee ed
 simp only [Act.put,List.setIfInBounds_toArray,List.set_cons_zero,List.set_cons_succ]
 have kl0:wd.cell? ⟨gl,0,none⟩=some (.int .i64 n):=(blk_cell KL.out 0).trans rfl
 have kl1:wd.cell? ⟨gl,1,none⟩=some (.slice A l.length c):=(blk_cell KL.out 1).trans rfl
 have kz0:wd.cell? ⟨gz,0,none⟩=some (.bool true):=(blk_cell KZ.out 0).trans rfl
 have kz1:wd.cell? ⟨gz,1,none⟩=some (.slice A1 ss.length c1):=(blk_cell KZ.out 1).trans rfl
 have kz2:wd.cell? ⟨gz,2,none⟩=some (.slice A2 dd.length c2):=(blk_cell KZ.out 2).trans rfl
 have ke0:wd.cell? ⟨ge,0,none⟩=some (.int .i64 op):=(blk_cell KE.out 0).trans rfl
 have ke1:wd.cell? ⟨ge,1,none⟩=some (.int .i64 of):=(blk_cell KE.out 1).trans rfl
 have ke2:wd.cell? ⟨ge,2,none⟩=some (.int .i64 dir):=(blk_cell KE.out 2).trans rfl
 have kd0:wd.cell? ⟨gd,0,none⟩=some (.int .i64 0):=(blk_cell KD.out 0).trans rfl
 have kd1:wd.cell? ⟨gd,1,none⟩=some (.bool false):=(blk_cell KD.out 1).trans rfl
 have kd2:wd.cell? ⟨gd,2,none⟩=some (.slice none 0 0):=(blk_cell KD.out 2).trans rfl
 have kd3:wd.cell? ⟨gd,3,none⟩=some (.slice none 0 0):=(blk_cell KD.out 3).trans rfl
 have zd0:=blk_frozen KD.out 0
 have zd1:=blk_frozen KD.out 1
 have zd2:=blk_frozen KD.out 2
 have zd3:=blk_frozen KD.out 3
 go_upto_region 4 with (first|(go_at_call 69;refine (sst_ok HST.out (Kd.C_below HR.out BB.out) hc (Kd.C_below HR1.out BB.out) hc1 (Kd.C_below HR2.out BB.out) hc2).mono ?_;rintro e w1 ⟨rfl,hb⟩;have KL:=Aside0.mk (blk_below KL.out hb);have KZ:=Aside0.mk (blk_below KZ.out hb);have KE:=Aside0.mk (blk_below KE.out hb);have KD:=Aside0.mk (blk_below KD.out hb);have BB:=Aside0.mk (below_step BB.out hb);clear hb;have kl0:w1.cell? ⟨gl,0,none⟩=some (.int .i64 n):=(blk_cell KL.out 0).trans rfl;have kl1:w1.cell? ⟨gl,1,none⟩=some (.slice A l.length c):=(blk_cell KL.out 1).trans rfl;have kz0:w1.cell? ⟨gz,0,none⟩=some (.bool true):=(blk_cell KZ.out 0).trans rfl;have kz1:w1.cell? ⟨gz,1,none⟩=some (.slice A1 ss.length c1):=(blk_cell KZ.out 1).trans rfl;have kz2:w1.cell? ⟨gz,2,none⟩=some (.slice A2 dd.length c2):=(blk_cell KZ.out 2).trans rfl;have ke0:w1.cell? ⟨ge,0,none⟩=some (.int .i64 op):=(blk_cell KE.out 0).trans rfl;have ke1:w1.cell? ⟨ge,1,none⟩=some (.int .i64 of):=(blk_cell KE.out 1).trans rfl;have ke2:w1.cell? ⟨ge,2,none⟩=some (.int .i64 dir):=(blk_cell KE.out 2).trans rfl;have kd0:w1.cell? ⟨gd,0,none⟩=some (.int .i64 0):=(blk_cell KD.out 0).trans rfl;have kd1:w1.cell? ⟨gd,1,none⟩=some (.bool false):=(blk_cell KD.out 1).trans rfl;have kd2:w1.cell? ⟨gd,2,none⟩=some (.slice none 0 0):=(blk_cell KD.out 2).trans rfl;have kd3:w1.cell? ⟨gd,3,none⟩=some (.slice none 0 0):=(blk_cell KD.out 3).trans rfl;have zd0:=blk_frozen KD.out 0;have zd1:=blk_frozen KD.out 1;have zd2:=blk_frozen KD.out 2;have zd3:=blk_frozen KD.out 3)|(go_at_call 26;refine (sev_at op of dir HEV.out (Kd.C_below HR.out BB.out) hc).mono ?_;rintro e w2 ⟨rfl,hb⟩;have KL:=Aside0.mk (blk_below KL.out hb);have KZ:=Aside0.mk (blk_below KZ.out hb);have KE:=Aside0.mk (blk_below KE.out hb);have KD:=Aside0.mk (blk_below KD.out hb);have BB:=Aside0.mk (below_step BB.out hb);clear hb;have kl0:w2.cell? ⟨gl,0,none⟩=some (.int .i64 n):=(blk_cell KL.out 0).trans rfl;have kl1:w2.cell? ⟨gl,1,none⟩=some (.slice A l.length c):=(blk_cell KL.out 1).trans rfl;have kz0:w2.cell? ⟨gz,0,none⟩=some (.bool true):=(blk_cell KZ.out 0).trans rfl;have kz1:w2.cell? ⟨gz,1,none⟩=some (.slice A1 ss.length c1):=(blk_cell KZ.out 1).trans rfl;have kz2:w2.cell? ⟨gz,2,none⟩=some (.slice A2 dd.length c2):=(blk_cell KZ.out 2).trans rfl;have ke0:w2.cell? ⟨ge,0,none⟩=some (.int .i64 op):=(blk_cell KE.out 0).trans rfl;have ke1:w2.cell? ⟨ge,1,none⟩=some (.int .i64 of):=(blk_cell KE.out 1).trans rfl;have ke2:w2.cell? ⟨ge,2,none⟩=some (.int .i64 dir):=(blk_cell KE.out 2).trans rfl;have kd0:w2.cell? ⟨gd,0,none⟩=some (.int .i64 0):=(blk_cell KD.out 0).trans rfl;have kd1:w2.cell? ⟨gd,1,none⟩=some (.bool false):=(blk_cell KD.out 1).trans rfl;have kd2:w2.cell? ⟨gd,2,none⟩=some (.slice none 0 0):=(blk_cell KD.out 2).trans rfl;have kd3:w2.cell? ⟨gd,3,none⟩=some (.slice none 0 0):=(blk_cell KD.out 3).trans rfl;have zd0:=blk_frozen KD.out 0;have zd1:=blk_frozen KD.out 1;have zd2:=blk_frozen KD.out 2;have zd3:=blk_frozen KD.out 3)|(go_at_call 60;refine (copy_is (Kd.C_below HR1.out BB.out) hc1 (Kd.C_below HR2.out BB.out) hc2 hs hd).mono ?_;rintro e w3 ⟨v1,v2,rfl,hR1,hR2,hb⟩;have H1:=Aside0.mk (Kd.R_lower hR1 BB.out.size);have H2:=Aside0.mk (Kd.R_lower hR2 BB.out.size);clear hR1 hR2;obtain ⟨gr,cr,e1,_,_,_⟩:=Kd.R_form H1.out hpos;obtain ⟨Ad,cd,e2⟩:=Kd.R_slice H2.out;subst e1 e2;have KL:=Aside0.mk (blk_below KL.out hb);have KZ:=Aside0.mk (blk_below KZ.out hb);have KE:=Aside0.mk (blk_below KE.out hb);have KD:=Aside0.mk (blk_below KD.out hb);have BB:=Aside0.mk (below_step BB.out hb);clear hb;have kl0:w3.cell? ⟨gl,0,none⟩=some (.int .i64 n):=(blk_cell KL.out 0).trans rfl;have kl1:w3.cell? ⟨gl,1,none⟩=some (.slice A l.length c):=(blk_cell KL.out 1).trans rfl;have kz0:w3.cell? ⟨gz,0,none⟩=some (.bool true):=(blk_cell KZ.out 0).trans rfl;have kz1:w3.cell? ⟨gz,1,none⟩=some (.slice A1 ss.length c1):=(blk_cell KZ.out 1).trans rfl;have kz2:w3.cell? ⟨gz,2,none⟩=some (.slice A2 dd.length c2):=(blk_cell KZ.out 2).trans rfl;have ke0:w3.cell? ⟨ge,0,none⟩=some (.int .i64 op):=(blk_cell KE.out 0).trans rfl;have ke1:w3.cell? ⟨ge,1,none⟩=some (.int .i64 of):=(blk_cell KE.out 1).trans rfl;have ke2:w3.cell? ⟨ge,2,none⟩=some (.int .i64 dir):=(blk_cell KE.out 2).trans rfl;have kd0:w3.cell? ⟨gd,0,none⟩=some (.int .i64 0):=(blk_cell KD.out 0).trans rfl;have kd1:w3.cell? ⟨gd,1,none⟩=some (.bool false):=(blk_cell KD.out 1).trans rfl;have kd2:w3.cell? ⟨gd,2,none⟩=some (.slice none 0 0):=(blk_cell KD.out 2).trans rfl;have kd3:w3.cell? ⟨gd,3,none⟩=some (.slice none 0 0):=(blk_cell KD.out 3).trans rfl;have zd0:=blk_frozen KD.out 0;have zd1:=blk_frozen KD.out 1;have zd2:=blk_frozen KD.out 2;have zd3:=blk_frozen KD.out 3)|((with_reducible refine gate_dst (N:=7) rfl ?_);refine box_event ?hg (N:=7) ?hd (cs:=#[.bool false,.slice none 0 0,.slice none 0 0]) (t:=83) ?hr ?_;(case hd=>rfl);(case hg=>rfl);(case hr=>first|(go_simp;done)|(go_simp;rfl));intro go eo wo ko bo;have KO:=Aside0.mk ko;have EO:=Aside0.mk eo;have BO:=Aside0.mk bo;have zo0:=blk_frozen ko 0;have zo1:=blk_frozen ko 1;have zo2:=blk_frozen ko 2;have ko0:=(blk_cell ko 0).trans (show _=some (Value.bool false) from rfl);have ko1:=(blk_cell ko 1).trans (show _=some (Value.slice none 0 0) from rfl);have ko2:=(blk_cell ko 2).trans (show _=some (Value.slice none 0 0) from rfl);have ke0:=pw_cell_below bo ke0;clear bo eo ko))
 have KX:=Aside0.mk (blk_put (blk_put (blk_put KO.out 0 (.bool true) rfl) 1 (.slice (some ⟨gr,0,none⟩) ss.length cr) rfl) 2 (.slice Ad dd.length cd) rfl)
 have BX:=Aside0.mk (below_set (j:=2) (v:=(.slice Ad dd.length cd)) (below_set (j:=1) (v:=(.slice (some ⟨gr,0,none⟩) ss.length cr)) (below_set (j:=0) (v:=.bool true) BO.out (Nat.le_of_eq EO.out.symm)) (Nat.le_of_eq EO.out.symm)) (Nat.le_of_eq EO.out.symm))
 have GO:=Aside0.mk (show w.heap.size≤go by rw [EO.out];exact BB.out.size)
 clear kl0 kl1 kz0 kz1 kz2 ke0 ke1 ke2 kd0 kd1 kd2 kd3 zd0 zd1 zd2 zd3 zo0 zo1 zo2 ko0 ko1 ko2
 have SA:=Aside0.mk (show SpSt w (((wo.setCell ⟨go,0,none⟩ (.bool true)).setCell ⟨go,1,none⟩ (.slice (some ⟨gr,0,none⟩) ss.length cr)).setCell ⟨go,2,none⟩ (.slice Ad dd.length cd)) gl gz go ge gd [.int .i64 n,.slice A l.length c] [.bool true,.slice A1 ss.length c1,.slice A2 dd.length c2] [.bool true,.slice (some ⟨gr,0,none⟩) ss.length cr,.slice Ad dd.length cd] [.int .i64 op,.int .i64 of,.int .i64 dir] [.int .i64 0,.bool false,.slice none 0 0,.slice none 0 0] (.slice (some ⟨gr,0,none⟩) ss.length cr) (.slice Ad dd.length cd) ss dd from ⟨⟨blk_below KL.out BX.out,KX.out,blk_below KE.out BX.out,blk_below KD.out BX.out,R_up H1.out BX.out,R_up H2.out BX.out,below_step BB.out BX.out,GL.out,GO.out,GE.out,GD.out⟩,blk_below KZ.out BX.out⟩)
 clear KL KZ KE KD BB H1 H2 KO BO EO KX BX
 generalize (((wo.setCell ⟨go,0,none⟩ (.bool true)).setCell ⟨go,1,none⟩ (.slice (some ⟨gr,0,none⟩) ss.length cr)).setCell ⟨go,2,none⟩ (.slice Ad dd.length cd))=wa at SA ⊢
 have kge0:wa.cell? ⟨ge,0,none⟩=some (.int .i64 op):=(blk_cell SA.out.D.he 0).trans rfl
 go_upto_block 0 with fail
 clear kge0
 go_cut [8] from 9 to 126 (fun v8 wx=>v8=.int .i64 (doCode l ss dd op of)∧Aside0 (SpSt w wx gl gz go ge gd [.int .i64 n,.slice A l.length c] [.bool true,.slice A1 ss.length c1,.slice A2 dd.length c2] [.bool true,.slice (some ⟨gr,0,none⟩) ss.length cr,.slice Ad dd.length cd] [.int .i64 op,.int .i64 of,.int .i64 dir] [.int .i64 0,.bool false,.slice none 0 0,.slice none 0 0] (.slice (some ⟨gr,0,none⟩) ss.length cr) (.slice Ad dd.length cd) (midSecs2 l ss dd op of dir) (doDead l ss dd op of)))
 case first =>
  obtain ⟨hl,hns,hnd,hln⟩:=HN.out
  have HL2:=Aside0.mk hln
  rcases evOk_cases HEV.out with ⟨hop,ho0,ho1,hdir⟩|⟨hop,ho0,ho1⟩|⟨rfl,ho0,ho1⟩
  ·skip
   have lr:=lay_rd hl of ho0 ho1
   have ho2:=ho1
   rw [← hnd] at ho1
   obtain ⟨gb,cb,e,_,_,_⟩:=Kd.R_form SA.out.D.H2 (show 0<dd.length by omega)
   cases e
   obtain ⟨x0,xf⟩:=bool_at SA.out.D.H2 of ho0 ho1
   obtain ⟨ad,e,y0,y1⟩:=at_T98 HR.out of ho0 ho2
   subst e
   obtain ⟨a2,e,-⟩:=HR2.out.2.2 (show 0<dd.length by omega)
   subst e
   have u0:=Kd.foot_bool HR2.out of ho0 ho1
   have U0:=Aside0.mk u0
   have LR0:=Aside0.mk (show (rd_T98 l of).f0<(ss.length:Int) by omega)
   have LR1:=Aside0.mk (show (rd_T98 l of).f1<(ss.length:Int) by omega)
   clear lr hl hns hnd hln u0
   have Y0:=Aside0.mk y0
   have Y1:=Aside0.mk y1
   clear y0 y1
   rcases hop with rfl|rfl
   ·skip
    have kge0:wa.cell? ⟨ge,0,none⟩=some (.int .i64 1):=(blk_cell SA.out.D.he 0).trans rfl
    have kge1:wa.cell? ⟨ge,1,none⟩=some (.int .i64 of):=(blk_cell SA.out.D.he 1).trans rfl
    have kge2:wa.cell? ⟨ge,2,none⟩=some (.int .i64 dir):=(blk_cell SA.out.D.he 2).trans rfl
    have kgo0:wa.cell? ⟨go,0,none⟩=some (.bool true):=(blk_cell SA.out.D.hs 0).trans rfl
    have kgo1:wa.cell? ⟨go,1,none⟩=some (.slice (some ⟨gr,0,none⟩) ss.length cr):=(blk_cell SA.out.D.hs 1).trans rfl
    have kgo2:wa.cell? ⟨go,2,none⟩=some (.slice (some ⟨gb,0,none⟩) dd.length cd):=(blk_cell SA.out.D.hs 2).trans rfl
    have kgz0:wa.cell? ⟨gz,0,none⟩=some (.bool true):=(blk_cell SA.out.hz 0).trans rfl
    have kgz1:wa.cell? ⟨gz,1,none⟩=some (.slice A1 ss.length c1):=(blk_cell SA.out.hz 1).trans rfl
    have kgz2:wa.cell? ⟨gz,2,none⟩=some (.slice (some a2) dd.length c2):=(blk_cell SA.out.hz 2).trans rfl
    have kgl0:wa.cell? ⟨gl,0,none⟩=some (.int .i64 n):=(blk_cell SA.out.D.hl 0).trans rfl
    have kgl1:wa.cell? ⟨gl,1,none⟩=some (.slice (some ad) l.length c):=(blk_cell SA.out.D.hl 1).trans rfl
    have y0:=pw_cell_below SA.out.D.hB Y0.out
    have y1:=pw_cell_below SA.out.D.hB Y1.out
    go_upto_region 9 with (first|((with_reducible refine gate_dst (N:=9) rfl ?_);refine box_event ?hg (N:=9) ?hd (cs:=#[.int .i64 0,.int .i64 0]) (t:=98) ?hr ?_;(case hd=>rfl);(case hg=>rfl);(case hr=>first|(go_simp;done)|(go_simp;rfl));intro gc ec wb kc bc;have KC:=Aside0.mk kc;have EC:=Aside0.mk ec;have BC:=Aside0.mk bc;have zc0:=blk_frozen kc 0;have zc1:=blk_frozen kc 1;have kc0:=(blk_cell kc 0).trans (show _=some (Value.int .i64 0) from rfl);have kc1:=(blk_cell kc 1).trans (show _=some (Value.int .i64 0) from rfl);clear kc ec bc))
    have KX:=Aside0.mk (blk_put (blk_put KC.out 0 (.int .i64 (rd_T98 l of).f0) rfl) 1 (.int .i64 (rd_T98 l of).f1) rfl)
    have BX:=Aside0.mk (below_set (j:=1) (v:=(.int .i64 (rd_T98 l of).f1)) (below_set (j:=0) (v:=(.int .i64 (rd_T98 l of).f0)) BC.out (Nat.le_of_eq EC.out.symm)) (Nat.le_of_eq EC.out.symm))
    have S1:=Aside0.mk (SA.out.up BX.out)
    clear kge0 kge1 kge2 kgo0 kgo1 kgo2 kgz0 kgz1 kgz2 kgl0 kgl1
    clear SA y0 y1 KC BC EC zc0 zc1 kc0 kc1 BX x0 xf
    generalize (wb.setCell ⟨gc,0,none⟩ (.int .i64 (rd_T98 l of).f0)).setCell ⟨gc,1,none⟩ (.int .i64 (rd_T98 l of).f1)=w1 at S1 KX ⊢
    have kge0:w1.cell? ⟨ge,0,none⟩=some (.int .i64 1):=(blk_cell S1.out.D.he 0).trans rfl
    have kge1:w1.cell? ⟨ge,1,none⟩=some (.int .i64 of):=(blk_cell S1.out.D.he 1).trans rfl
    have kge2:w1.cell? ⟨ge,2,none⟩=some (.int .i64 dir):=(blk_cell S1.out.D.he 2).trans rfl
    have kgo0:w1.cell? ⟨go,0,none⟩=some (.bool true):=(blk_cell S1.out.D.hs 0).trans rfl
    have kgo1:w1.cell? ⟨go,1,none⟩=some (.slice (some ⟨gr,0,none⟩) ss.length cr):=(blk_cell S1.out.D.hs 1).trans rfl
    have kgo2:w1.cell? ⟨go,2,none⟩=some (.slice (some ⟨gb,0,none⟩) dd.length cd):=(blk_cell S1.out.D.hs 2).trans rfl
    have kgz0:w1.cell? ⟨gz,0,none⟩=some (.bool true):=(blk_cell S1.out.hz 0).trans rfl
    have kgz1:w1.cell? ⟨gz,1,none⟩=some (.slice A1 ss.length c1):=(blk_cell S1.out.hz 1).trans rfl
    have kgz2:w1.cell? ⟨gz,2,none⟩=some (.slice (some a2) dd.length c2):=(blk_cell S1.out.hz 2).trans rfl
    have kgl0:w1.cell? ⟨gl,0,none⟩=some (.int .i64 n):=(blk_cell S1.out.D.hl 0).trans rfl
    have kgl1:w1.cell? ⟨gl,1,none⟩=some (.slice (some ad) l.length c):=(blk_cell S1.out.D.hl 1).trans rfl
    have kc0:w1.cell? ⟨gc,0,none⟩=some (.int .i64 (rd_T98 l of).f0):=(blk_cell KX.out 0).trans rfl
    have kc1:w1.cell? ⟨gc,1,none⟩=some (.int .i64 (rd_T98 l of).f1):=(blk_cell KX.out 1).trans rfl
    have u0:=pw_cell_below S1.out.D.hB U0.out
    rcases Bool.eq_false_or_eq_true (rdOf false dd of) with hdo|hdo
    ·rw [hdo] at u0
     have HC:=Aside0.mk (show doCode l ss dd 1 of=2 by unfold doCode;rw [if_pos (by decide),if_pos hdo])
     clear hdo
     go_wp2_with fail
     go_meet
     case rel=>exact ⟨by rw [HC.out],⟨by unfold midSecs2 doDead;rw [HC.out];exact S1.out⟩⟩
    rw [hdo] at u0
    have HC:=Aside0.mk (show doCode l ss dd 1 of=0 by unfold doCode;rw [if_pos (by decide),hdo];rfl)
    clear hdo
    rcases hdir with rfl|rfl
    ·skip
     go_upto_region 18 with (go_at_call 70;refine (out_any _ true go gr ss.length cr _ _ _ _ _ LR0.out S1.out.D.hs S1.out.D.H1).mono ?_;rintro e w2 ⟨rfl,hR,hg⟩;have S2:=Aside0.mk (S1.out.sec hR hg);clear hR hg)
     go_wp2_with (go_at_call 70;refine (in_any _ true go gr ss.length cr _ _ _ _ _ LR1.out S2.out.D.hs S2.out.D.H1).mono ?_;rintro e w3 ⟨rfl,hR,hg⟩;have S3:=Aside0.mk (S2.out.sec hR hg);clear hR hg)
     go_meet
     case rel=>exact ⟨by rw [HC.out],⟨by unfold midSecs2 doDead;rw [if_pos HC.out,if_pos HC.out];exact S3.out⟩⟩
    skip
    go_upto_region 18 with (go_at_call 70;refine (out_any _ true go gr ss.length cr _ _ _ _ _ LR1.out S1.out.D.hs S1.out.D.H1).mono ?_;rintro e w2 ⟨rfl,hR,hg⟩;have S2:=Aside0.mk (S1.out.sec hR hg);clear hR hg)
    go_wp2_with (go_at_call 70;refine (in_any _ true go gr ss.length cr _ _ _ _ _ LR0.out S2.out.D.hs S2.out.D.H1).mono ?_;rintro e w3 ⟨rfl,hR,hg⟩;have S3:=Aside0.mk (S2.out.sec hR hg);clear hR hg)
    go_meet
    case rel=>exact ⟨by rw [HC.out],⟨by unfold midSecs2 doDead;rw [if_pos HC.out,if_pos HC.out];exact S3.out⟩⟩
   skip
   have kge0:wa.cell? ⟨ge,0,none⟩=some (.int .i64 2):=(blk_cell SA.out.D.he 0).trans rfl
   have kge1:wa.cell? ⟨ge,1,none⟩=some (.int .i64 of):=(blk_cell SA.out.D.he 1).trans rfl
   have kge2:wa.cell? ⟨ge,2,none⟩=some (.int .i64 dir):=(blk_cell SA.out.D.he 2).trans rfl
   have kgo0:wa.cell? ⟨go,0,none⟩=some (.bool true):=(blk_cell SA.out.D.hs 0).trans rfl
   have kgo1:wa.cell? ⟨go,1,none⟩=some (.slice (some ⟨gr,0,none⟩) ss.length cr):=(blk_cell SA.out.D.hs 1).trans rfl
   have kgo2:wa.cell? ⟨go,2,none⟩=some (.slice (some ⟨gb,0,none⟩) dd.length cd):=(blk_cell SA.out.D.hs 2).trans rfl
   have kgz0:wa.cell? ⟨gz,0,none⟩=some (.bool true):=(blk_cell SA.out.hz 0).trans rfl
   have kgz1:wa.cell? ⟨gz,1,none⟩=some (.slice A1 ss.length c1):=(blk_cell SA.out.hz 1).trans rfl
   have kgz2:wa.cell? ⟨gz,2,none⟩=some (.slice (some a2) dd.length c2):=(blk_cell SA.out.hz 2).trans rfl
   have kgl0:wa.cell? ⟨gl,0,none⟩=some (.int .i64 n):=(blk_cell SA.out.D.hl 0).trans rfl
   have kgl1:wa.cell? ⟨gl,1,none⟩=some (.slice (some ad) l.length c):=(blk_cell SA.out.D.hl 1).trans rfl
   have y0:=pw_cell_below SA.out.D.hB Y0.out
   have y1:=pw_cell_below SA.out.D.hB Y1.out
   go_upto_region 9 with (first|((with_reducible refine gate_dst (N:=9) rfl ?_);refine box_event ?hg (N:=9) ?hd (cs:=#[.int .i64 0,.int .i64 0]) (t:=98) ?hr ?_;(case hd=>rfl);(case hg=>rfl);(case hr=>first|(go_simp;done)|(go_simp;rfl));intro gc ec wb kc bc;have KC:=Aside0.mk kc;have EC:=Aside0.mk ec;have BC:=Aside0.mk bc;have zc0:=blk_frozen kc 0;have zc1:=blk_frozen kc 1;have kc0:=(blk_cell kc 0).trans (show _=some (Value.int .i64 0) from rfl);have kc1:=(blk_cell kc 1).trans (show _=some (Value.int .i64 0) from rfl);clear kc ec bc))
   have KX:=Aside0.mk (blk_put (blk_put KC.out 0 (.int .i64 (rd_T98 l of).f0) rfl) 1 (.int .i64 (rd_T98 l of).f1) rfl)
   have BX:=Aside0.mk (below_set (j:=1) (v:=(.int .i64 (rd_T98 l of).f1)) (below_set (j:=0) (v:=(.int .i64 (rd_T98 l of).f0)) BC.out (Nat.le_of_eq EC.out.symm)) (Nat.le_of_eq EC.out.symm))
   have S1:=Aside0.mk (SA.out.up BX.out)
   clear kge0 kge1 kge2 kgo0 kgo1 kgo2 kgz0 kgz1 kgz2 kgl0 kgl1
   clear SA y0 y1 KC BC EC zc0 zc1 kc0 kc1 BX x0 xf
   generalize (wb.setCell ⟨gc,0,none⟩ (.int .i64 (rd_T98 l of).f0)).setCell ⟨gc,1,none⟩ (.int .i64 (rd_T98 l of).f1)=w1 at S1 KX ⊢
   have kge0:w1.cell? ⟨ge,0,none⟩=some (.int .i64 2):=(blk_cell S1.out.D.he 0).trans rfl
   have kge1:w1.cell? ⟨ge,1,none⟩=some (.int .i64 of):=(blk_cell S1.out.D.he 1).trans rfl
   have kge2:w1.cell? ⟨ge,2,none⟩=some (.int .i64 dir):=(blk_cell S1.out.D.he 2).trans rfl
   have kgo0:w1.cell? ⟨go,0,none⟩=some (.bool true):=(blk_cell S1.out.D.hs 0).trans rfl
   have kgo1:w1.cell? ⟨go,1,none⟩=some (.slice (some ⟨gr,0,none⟩) ss.length cr):=(blk_cell S1.out.D.hs 1).trans rfl
   have kgo2:w1.cell? ⟨go,2,none⟩=some (.slice (some ⟨gb,0,none⟩) dd.length cd):=(blk_cell S1.out.D.hs 2).trans rfl
   have kgz0:w1.cell? ⟨gz,0,none⟩=some (.bool true):=(blk_cell S1.out.hz 0).trans rfl
   have kgz1:w1.cell? ⟨gz,1,none⟩=some (.slice A1 ss.length c1):=(blk_cell S1.out.hz 1).trans rfl
   have kgz2:w1.cell? ⟨gz,2,none⟩=some (.slice (some a2) dd.length c2):=(blk_cell S1.out.hz 2).trans rfl
   have kgl0:w1.cell? ⟨gl,0,none⟩=some (.int .i64 n):=(blk_cell S1.out.D.hl 0).trans rfl
   have kgl1:w1.cell? ⟨gl,1,none⟩=some (.slice (some ad) l.length c):=(blk_cell S1.out.D.hl 1).trans rfl
   have kc0:w1.cell? ⟨gc,0,none⟩=some (.int .i64 (rd_T98 l of).f0):=(blk_cell KX.out 0).trans rfl
   have kc1:w1.cell? ⟨gc,1,none⟩=some (.int .i64 (rd_T98 l of).f1):=(blk_cell KX.out 1).trans rfl
   have u0:=pw_cell_below S1.out.D.hB U0.out
   rcases Bool.eq_false_or_eq_true (rdOf false dd of) with hdo|hdo
   ·rw [hdo] at u0
    have HC:=Aside0.mk (show doCode l ss dd 2 of=2 by unfold doCode;rw [if_pos (by decide),if_pos hdo])
    clear hdo
    go_wp2_with fail
    go_meet
    case rel=>exact ⟨by rw [HC.out],⟨by unfold midSecs2 doDead;rw [HC.out];exact S1.out⟩⟩
   rw [hdo] at u0
   have HC:=Aside0.mk (show doCode l ss dd 2 of=0 by unfold doCode;rw [if_pos (by decide),hdo];rfl)
   clear hdo
   rcases hdir with rfl|rfl
   ·skip
    go_wp2_with (go_at_call 70;refine (in_any _ true go gr ss.length cr _ _ _ _ _ LR1.out S1.out.D.hs S1.out.D.H1).mono ?_;rintro e w3 ⟨rfl,hR,hg⟩;have S3:=Aside0.mk (S1.out.sec hR hg);clear hR hg)
    go_meet
    case rel=>exact ⟨by rw [HC.out],⟨by unfold midSecs2 doDead;rw [if_pos HC.out,if_pos HC.out];exact S3.out⟩⟩
   skip
   go_wp2_with (go_at_call 70;refine (in_any _ true go gr ss.length cr _ _ _ _ _ LR0.out S1.out.D.hs S1.out.D.H1).mono ?_;rintro e w3 ⟨rfl,hR,hg⟩;have S3:=Aside0.mk (S1.out.sec hR hg);clear hR hg)
   go_meet
   case rel=>exact ⟨by rw [HC.out],⟨by unfold midSecs2 doDead;rw [if_pos HC.out,if_pos HC.out];exact S3.out⟩⟩
  ·skip
   have lr:=lay_rd hl of ho0 ho1
   have ho2:=ho1
   rw [← hnd] at ho1
   obtain ⟨gb,cb,e,_,_,_⟩:=Kd.R_form SA.out.D.H2 (show 0<dd.length by omega)
   cases e
   obtain ⟨x0,xf⟩:=bool_at SA.out.D.H2 of ho0 ho1
   obtain ⟨ad,e,y0,y1⟩:=at_T98 HR.out of ho0 ho2
   subst e
   obtain ⟨a2,e,-⟩:=HR2.out.2.2 (show 0<dd.length by omega)
   subst e
   have u0:=Kd.foot_bool HR2.out of ho0 ho1
   have U0:=Aside0.mk u0
   have LR0:=Aside0.mk (show (rd_T98 l of).f0<(ss.length:Int) by omega)
   have LR1:=Aside0.mk (show (rd_T98 l of).f1<(ss.length:Int) by omega)
   clear lr hl hns hnd hln u0
   have Y0:=Aside0.mk y0
   have Y1:=Aside0.mk y1
   clear y0 y1
   have HC:=Aside0.mk (show doCode l ss dd op of=0 by unfold doCode;rw [if_neg (by omega),if_neg (by omega)])
   have HM:=Aside0.mk (show midSecs2 l ss dd op of dir=midSecs l ss op of dir by unfold midSecs2;rw [if_pos HC.out])
   have HD:=Aside0.mk (show doDead l ss dd op of=midDead dd op of by unfold doDead;rw [if_pos HC.out])
   rcases hop with rfl|rfl
   ·skip
    have kge0:wa.cell? ⟨ge,0,none⟩=some (.int .i64 3):=(blk_cell SA.out.D.he 0).trans rfl
    have kge1:wa.cell? ⟨ge,1,none⟩=some (.int .i64 of):=(blk_cell SA.out.D.he 1).trans rfl
    have kge2:wa.cell? ⟨ge,2,none⟩=some (.int .i64 dir):=(blk_cell SA.out.D.he 2).trans rfl
    have kgo0:wa.cell? ⟨go,0,none⟩=some (.bool true):=(blk_cell SA.out.D.hs 0).trans rfl
    have kgo1:wa.cell? ⟨go,1,none⟩=some (.slice (some ⟨gr,0,none⟩) ss.length cr):=(blk_cell SA.out.D.hs 1).trans rfl
    have kgo2:wa.cell? ⟨go,2,none⟩=some (.slice (some ⟨gb,0,none⟩) dd.length cd):=(blk_cell SA.out.D.hs 2).trans rfl
    have kgz0:wa.cell? ⟨gz,0,none⟩=some (.bool true):=(blk_cell SA.out.hz 0).trans rfl
    have kgz1:wa.cell? ⟨gz,1,none⟩=some (.slice A1 ss.length c1):=(blk_cell SA.out.hz 1).trans rfl
    have kgz2:wa.cell? ⟨gz,2,none⟩=some (.slice (some a2) dd.length c2):=(blk_cell SA.out.hz 2).trans rfl
    have kgl0:wa.cell? ⟨gl,0,none⟩=some (.int .i64 n):=(blk_cell SA.out.D.hl 0).trans rfl
    have kgl1:wa.cell? ⟨gl,1,none⟩=some (.slice (some ad) l.length c):=(blk_cell SA.out.D.hl 1).trans rfl
    go_upto_region 21 with fail
    have S1:=Aside0.mk (SA.out.dead of true)
    clear kge0 kge1 kge2 kgo0 kgo1 kgo2 kgz0 kgz1 kgz2 kgl0 kgl1
    clear SA x0 xf
    generalize wa.setCell ⟨gb,of.toNat,none⟩ (.bool true)=w1 at S1 ⊢
    have kge1:w1.cell? ⟨ge,1,none⟩=some (.int .i64 of):=(blk_cell S1.out.D.he 1).trans rfl
    have kgl1:w1.cell? ⟨gl,1,none⟩=some (.slice (some ad) l.length c):=(blk_cell S1.out.D.hl 1).trans rfl
    have y0:=pw_cell_below S1.out.D.hB Y0.out
    have y1:=pw_cell_below S1.out.D.hB Y1.out
    go_region_held3 (fun w'=>w'.cell? ⟨gl,1,none⟩=some (.slice (some ad) l.length c)∧w'.cell? ⟨ge,1,none⟩=some (.int .i64 of)∧w'.cell? (ad.add (of.toNat * 2))=some (.int .i64 (rd_T98 l of).f0)∧w'.cell? ⟨(ad.add (of.toNat * 2)).block,(ad.add (of.toNat * 2)).off+1,none⟩=some (.int .i64 (rd_T98 l of).f1))
     (first|go_keep|(go_split_ands;(repeat' apply And.intro) <;> (refine pw_cell_below (below_alloc (Below.refl _ _) _) ?_;assumption)))
     (fail)
    have S2:=Aside0.mk (S1.out.up (below_drew1 (below_alloc (Below.refl w1.heap.size w1) (.cells #[.int .i64 (rd_T98 l of).f0,.int .i64 (rd_T98 l of).f1] 3))))
    have KS:Aside0 (((w1.alloc (.cells #[.int .i64 (rd_T98 l of).f0,.int .i64 (rd_T98 l of).f1] 3)).drew).heap[w1.heap.size]?=some (.cells #[.int .i64 (rd_T98 l of).f0,.int .i64 (rd_T98 l of).f1] 3 (0,0))):=⟨blk_drew (heap_alloc_new w1 _)⟩
    clear S1 kge1 kgl1 y0 y1
    generalize (w1.alloc (.cells #[.int .i64 (rd_T98 l of).f0,.int .i64 (rd_T98 l of).f1] 3)).drew=w2 at S2 KS ⊢
    generalize w1.heap.size=gq at KS ⊢
    go_wp2_with fail
    go_loopg [86] 2 (fun kq v w'=>∃ i:Int,v=.int .i64 i∧Aside0 ((i=0∧kq=2) ∨ (i=1∧kq=1) ∨ (i=2∧kq=0))∧Aside0 (w'.heap[gq]?=some (.cells #[.int .i64 (rd_T98 l of).f0,.int .i64 (rd_T98 l of).f1] 3 (0,0)))∧Aside0 (SpSt w w' gl gz go ge gd [.int .i64 n,.slice (some ad) l.length c] [.bool true,.slice A1 ss.length c1,.slice (some a2) dd.length c2] [.bool true,.slice (some ⟨gr,0,none⟩) ss.length cr,.slice (some ⟨gb,0,none⟩) dd.length cd] [.int .i64 3,.int .i64 of,.int .i64 dir] [.int .i64 0,.bool false,.slice none 0 0,.slice none 0 0] (.slice (some ⟨gr,0,none⟩) ss.length cr) (.slice (some ⟨gb,0,none⟩) dd.length cd) (loseTo ss (rd_T98 l of).f0 (rd_T98 l of).f1 i.toNat) (dd.set of.toNat true)))
    case atStart=>exact ⟨0,rfl,⟨.inl ⟨rfl,rfl⟩⟩,KS,S2⟩
    case round =>
     clear S2 KS
     obtain ⟨i,rfl,HI,KS,SL⟩:=hrel
     rcases HI.out with ⟨rfl,rfl⟩|⟨rfl,rfl⟩|⟨rfl,rfl⟩
     ·have kk:wr.cell? ⟨gq,0,none⟩=some (.int .i64 (rd_T98 l of).f0):=(blk_cell KS.out 0).trans rfl
      have kgo1:wr.cell? ⟨go,1,none⟩=some (.slice (some ⟨gr,0,none⟩) ss.length cr):=(blk_cell SL.out.D.hs 1).trans rfl
      by_cases h0:(rd_T98 l of).f0<0
      ·have h0b:decide ((rd_T98 l of).f0 ≥ 0)=false:=decide_eq_false (by omega)
       have H0:=Aside0.mk h0
       clear h0
       go_wp2_with fail
       go_roundg 1
       case measure=>omega
       case rel=>exact ⟨1,rfl,⟨.inr (.inl ⟨rfl,rfl⟩)⟩,KS,⟨by rw [show (1:Int).toNat=1 from rfl,show loseTo ss _ _ 1=loseTo ss _ _ 0 from if_pos H0.out];exact SL.out⟩⟩
      have h0b:decide ((rd_T98 l of).f0 ≥ 0)=true:=decide_eq_true (by omega)
      have h1:0≤(rd_T98 l of).f0:=by omega
      have h2:=LR0.out
      have H0:=Aside0.mk h0
      have H1:=Aside0.mk h1
      clear h0
      obtain ⟨z0,z1,z2,z3,z4,zf0,zf1,zf2,zf3,zf4⟩:=sec_at SL.out.D.H1 (rd_T98 l of).f0 h1 h2
      have hp1:=eq_true h1
      have hp2:=eq_true h2
      clear h1 h2 z0 z1 z3 z4 zf0 zf1 zf3 zf4
      go_wp2_with fail
      obtain ⟨hR,hg⟩:=(SecSt.start SL.out.D.H1 H1.out LR0.out).put2 H1.out LR0.out (u:=true) rfl
      have S3:=Aside0.mk (SL.out.sec hR hg)
      have K3:=Aside0.mk (blk_grown KS.out hg (Kd.R_ne SL.out.D.H1 KS.out (by decide)))
      clear hR hg
      go_roundg 1
      case measure=>omega
      case rel=>exact ⟨1,rfl,⟨.inr (.inl ⟨rfl,rfl⟩)⟩,K3,⟨by rw [show (1:Int).toNat=1 from rfl,show loseTo ss (rd_T98 l of).f0 (rd_T98 l of).f1 1=_ from if_neg (show ¬ (rd_T98 l of).f0<0 by have:=H1.out;omega)];exact S3.out⟩⟩
     ·have kk:wr.cell? ⟨gq,1,none⟩=some (.int .i64 (rd_T98 l of).f1):=(blk_cell KS.out 1).trans rfl
      have kgo1:wr.cell? ⟨go,1,none⟩=some (.slice (some ⟨gr,0,none⟩) ss.length cr):=(blk_cell SL.out.D.hs 1).trans rfl
      by_cases h0:(rd_T98 l of).f1<0
      ·have h0b:decide ((rd_T98 l of).f1 ≥ 0)=false:=decide_eq_false (by omega)
       have H0:=Aside0.mk h0
       clear h0
       go_wp2_with fail
       go_roundg 0
       case measure=>omega
       case rel=>exact ⟨2,rfl,⟨.inr (.inr ⟨rfl,rfl⟩)⟩,KS,⟨by rw [show (2:Int).toNat=2 from rfl,show loseTo ss (rd_T98 l of).f0 (rd_T98 l of).f1 2=loseTo ss (rd_T98 l of).f0 (rd_T98 l of).f1 1 from if_pos H0.out];exact SL.out⟩⟩
      have h0b:decide ((rd_T98 l of).f1 ≥ 0)=true:=decide_eq_true (by omega)
      have h1:0≤(rd_T98 l of).f1:=by omega
      have h2:=LR1.out
      have H0:=Aside0.mk h0
      have H1:=Aside0.mk h1
      clear h0
      obtain ⟨z0,z1,z2,z3,z4,zf0,zf1,zf2,zf3,zf4⟩:=sec_at SL.out.D.H1 (rd_T98 l of).f1 h1 h2
      have hp1:=eq_true h1
      have hp2:=eq_true h2
      clear h1 h2 z0 z1 z3 z4 zf0 zf1 zf3 zf4
      go_wp2_with fail
      obtain ⟨hR,hg⟩:=(SecSt.start SL.out.D.H1 H1.out LR1.out).put2 H1.out LR1.out (u:=true) rfl
      have S3:=Aside0.mk (SL.out.sec hR hg)
      have K3:=Aside0.mk (blk_grown KS.out hg (Kd.R_ne SL.out.D.H1 KS.out (by decide)))
      clear hR hg
      go_roundg 0
      case measure=>omega
      case rel=>exact ⟨2,rfl,⟨.inr (.inr ⟨rfl,rfl⟩)⟩,K3,⟨by rw [show (2:Int).toNat=2 from rfl,show loseTo ss (rd_T98 l of).f0 (rd_T98 l of).f1 2=_ from if_neg (show ¬ (rd_T98 l of).f1<0 by have:=H1.out;omega)];exact S3.out⟩⟩
     go_wp2_with fail
     go_meet
     case rel=>exact ⟨by rw [HC.out],⟨by rw [HM.out,HD.out];exact SL.out⟩⟩
   skip
   have kge0:wa.cell? ⟨ge,0,none⟩=some (.int .i64 4):=(blk_cell SA.out.D.he 0).trans rfl
   have kge1:wa.cell? ⟨ge,1,none⟩=some (.int .i64 of):=(blk_cell SA.out.D.he 1).trans rfl
   have kge2:wa.cell? ⟨ge,2,none⟩=some (.int .i64 dir):=(blk_cell SA.out.D.he 2).trans rfl
   have kgo0:wa.cell? ⟨go,0,none⟩=some (.bool true):=(blk_cell SA.out.D.hs 0).trans rfl
   have kgo1:wa.cell? ⟨go,1,none⟩=some (.slice (some ⟨gr,0,none⟩) ss.length cr):=(blk_cell SA.out.D.hs 1).trans rfl
   have kgo2:wa.cell? ⟨go,2,none⟩=some (.slice (some ⟨gb,0,none⟩) dd.length cd):=(blk_cell SA.out.D.hs 2).trans rfl
   have kgz0:wa.cell? ⟨gz,0,none⟩=some (.bool true):=(blk_cell SA.out.hz 0).trans rfl
   have kgz1:wa.cell? ⟨gz,1,none⟩=some (.slice A1 ss.length c1):=(blk_cell SA.out.hz 1).trans rfl
   have kgz2:wa.cell? ⟨gz,2,none⟩=some (.slice (some a2) dd.length c2):=(blk_cell SA.out.hz 2).trans rfl
   have kgl0:wa.cell? ⟨gl,0,none⟩=some (.int .i64 n):=(blk_cell SA.out.D.hl 0).trans rfl
   have kgl1:wa.cell? ⟨gl,1,none⟩=some (.slice (some ad) l.length c):=(blk_cell SA.out.D.hl 1).trans rfl
   go_wp2_with fail
   go_meet
   case rel=>exact ⟨by rw [HC.out],⟨by rw [HM.out,HD.out];exact SA.out.dead of false⟩⟩
  rw [← hns] at ho1
  have HLL:=Aside0.mk (show l.length≤1048576 by omega)
  have HND:=Aside0.mk hnd
  have HO0:=Aside0.mk ho0
  have HO1:=Aside0.mk ho1
  have HLY:=Aside0.mk hl
  have HON:=Aside0.mk (show of<n by omega)
  obtain ⟨a1,e,y0,y1,y2,y3,y4⟩:=at_T87 HR1.out of ho0 ho1
  subst e
  have Y4:=Aside0.mk y4
  clear y0 y1 y2 y3 y4 hl hns hnd hln
  have kge0:wa.cell? ⟨ge,0,none⟩=some (.int .i64 5):=(blk_cell SA.out.D.he 0).trans rfl
  have kge1:wa.cell? ⟨ge,1,none⟩=some (.int .i64 of):=(blk_cell SA.out.D.he 1).trans rfl
  have kge2:wa.cell? ⟨ge,2,none⟩=some (.int .i64 dir):=(blk_cell SA.out.D.he 2).trans rfl
  have kgo0:wa.cell? ⟨go,0,none⟩=some (.bool true):=(blk_cell SA.out.D.hs 0).trans rfl
  have kgo1:wa.cell? ⟨go,1,none⟩=some (.slice (some ⟨gr,0,none⟩) ss.length cr):=(blk_cell SA.out.D.hs 1).trans rfl
  have kgo2:wa.cell? ⟨go,2,none⟩=some (.slice Ad dd.length cd):=(blk_cell SA.out.D.hs 2).trans rfl
  have kgz0:wa.cell? ⟨gz,0,none⟩=some (.bool true):=(blk_cell SA.out.hz 0).trans rfl
  have kgz1:wa.cell? ⟨gz,1,none⟩=some (.slice (some a1) ss.length c1):=(blk_cell SA.out.hz 1).trans rfl
  have kgz2:wa.cell? ⟨gz,2,none⟩=some (.slice A2 dd.length c2):=(blk_cell SA.out.hz 2).trans rfl
  have kgl0:wa.cell? ⟨gl,0,none⟩=some (.int .i64 n):=(blk_cell SA.out.D.hl 0).trans rfl
  have kgl1:wa.cell? ⟨gl,1,none⟩=some (.slice A l.length c):=(blk_cell SA.out.D.hl 1).trans rfl
  rcases Bool.eq_false_or_eq_true (deadAt l dd of) with hdo|hdo
  ·have HDO:=Aside0.mk hdo
   have HC:=Aside0.mk (show doCode l ss dd 5 of=3 by unfold doCode;rw [if_neg (by decide),if_pos rfl,if_pos hdo])
   clear hdo
   go_wp2_with (go_at_call 71;refine (sdead_at of HDO.out (Kd.C_below HR.out SA.out.D.hB) hc (Kd.C_below HR2.out SA.out.D.hB) hc2 HLY.out HO0.out HON.out HND.out).mono ?_;rintro e w1 ⟨rfl,hb⟩;have S1:=Aside0.mk (SA.out.up hb);clear hb)
   go_meet
   case rel=>exact ⟨by rw [HC.out],⟨by unfold midSecs2 doDead;rw [HC.out];exact S1.out⟩⟩
  have HDO:=Aside0.mk hdo
  clear hdo
  go_upto_region 32 with (go_at_call 71;refine (sdead_at of HDO.out (Kd.C_below HR.out SA.out.D.hB) hc (Kd.C_below HR2.out SA.out.D.hB) hc2 HLY.out HO0.out HON.out HND.out).mono ?_;rintro e w1 ⟨rfl,hb⟩;have S1:=Aside0.mk (SA.out.up hb);clear hb)
  clear kge0 kge1 kge2 kgo0 kgo1 kgo2 kgz0 kgz1 kgz2 kgl0 kgl1
  clear SA
  have kge0:w1.cell? ⟨ge,0,none⟩=some (.int .i64 5):=(blk_cell S1.out.D.he 0).trans rfl
  have kge1:w1.cell? ⟨ge,1,none⟩=some (.int .i64 of):=(blk_cell S1.out.D.he 1).trans rfl
  have kge2:w1.cell? ⟨ge,2,none⟩=some (.int .i64 dir):=(blk_cell S1.out.D.he 2).trans rfl
  have kgo0:w1.cell? ⟨go,0,none⟩=some (.bool true):=(blk_cell S1.out.D.hs 0).trans rfl
  have kgo1:w1.cell? ⟨go,1,none⟩=some (.slice (some ⟨gr,0,none⟩) ss.length cr):=(blk_cell S1.out.D.hs 1).trans rfl
  have kgo2:w1.cell? ⟨go,2,none⟩=some (.slice Ad dd.length cd):=(blk_cell S1.out.D.hs 2).trans rfl
  have kgz0:w1.cell? ⟨gz,0,none⟩=some (.bool true):=(blk_cell S1.out.hz 0).trans rfl
  have kgz1:w1.cell? ⟨gz,1,none⟩=some (.slice (some a1) ss.length c1):=(blk_cell S1.out.hz 1).trans rfl
  have kgz2:w1.cell? ⟨gz,2,none⟩=some (.slice A2 dd.length c2):=(blk_cell S1.out.hz 2).trans rfl
  have kgl0:w1.cell? ⟨gl,0,none⟩=some (.int .i64 n):=(blk_cell S1.out.D.hl 0).trans rfl
  have kgl1:w1.cell? ⟨gl,1,none⟩=some (.slice A l.length c):=(blk_cell S1.out.D.hl 1).trans rfl
  have y4:=pw_cell_below S1.out.D.hB Y4.out
  have ho0:=HO0.out
  have ho1:=HO1.out
  obtain ⟨z0,z1,z2,z3,z4,zf0,zf1,zf2,zf3,zf4⟩:=sec_at S1.out.D.H1 of ho0 ho1
  have hr4:(rd_T87 ss of).f4≤1:=by have:=secOk_range (HSE.out of.toNat (by omega));rw [show ((of.toNat:Nat):Int)=of by omega] at this;omega
  by_cases hla:(rd_T87 ss of).f4=1
  ·have hla1:decide ((rd_T87 ss of).f4 > 0)=true:=decide_eq_true (by omega)
   have HC:=Aside0.mk (show doCode l ss dd 5 of=4 by unfold doCode;rw [if_neg (by decide),if_pos rfl,HDO.out,if_neg (by decide),if_pos hla])
   clear hla hr4
   go_wp2_with fail
   go_meet
   case rel=>exact ⟨by rw [HC.out],⟨by unfold midSecs2 doDead;rw [HC.out];exact S1.out⟩⟩
  have hla1:decide ((rd_T87 ss of).f4 > 0)=false:=decide_eq_false (by omega)
  have HC:=Aside0.mk (show doCode l ss dd 5 of=0 by unfold doCode;rw [if_neg (by decide),if_pos rfl,HDO.out,if_neg (by decide),if_neg hla])
  clear hla hr4
  go_wp2_with fail
  go_meet
  case rel =>
   obtain ⟨hR,hg⟩:=((((SecSt.start S1.out.D.H1 HO0.out HO1.out).put0 HO0.out HO1.out (u:=0) rfl).put1 HO0.out HO1.out (u:=0) rfl).put2 HO0.out HO1.out (u:=false) rfl |>.put3 HO0.out HO1.out (u:=true) rfl).put4 HO0.out HO1.out (u:=0) rfl
   exact ⟨by rw [HC.out],⟨by unfold midSecs2 doDead;rw [if_pos HC.out,if_pos HC.out];exact S1.out.sec hR hg⟩⟩
 case rest =>
  obtain ⟨rfl,SM⟩:=hcut
  have HLM:=Aside0.mk (midSecs2_length l ss dd op of dir)
  have HLD:=Aside0.mk (doDead_length l ss dd op of)
  have HDS:=Aside0.mk (retold_mid (op:=op) (of:=of) (dir:=dir) HSE.out)
  generalize hq1:doCode l ss dd op of=code
  have HQ:=Aside0.mk hq1
  clear hq1
  clear SA
  generalize midSecs2 l ss dd op of dir=ms at SM HLM HDS
  generalize hmd:doDead l ss dd op of=md at SM HLD HDS
  have HMD:=Aside0.mk hmd
  clear hmd
  have kgo1:wc.cell? ⟨go,1,none⟩=some (.slice (some ⟨gr,0,none⟩) ss.length cr):=(blk_cell SM.out.D.hs 1).trans rfl
  go_wp2_with fail
  go_loopg [130] ss.length (fun kq v w'=>∃ j:Nat,v=.int .i64 j∧Aside0 (j+kq=ss.length)∧Aside0 (SpSt w w' gl gz go ge gd [.int .i64 n,.slice A l.length c] [.bool true,.slice A1 ss.length c1,.slice A2 dd.length c2] [.bool true,.slice (some ⟨gr,0,none⟩) ss.length cr,.slice Ad dd.length cd] [.int .i64 op,.int .i64 of,.int .i64 dir] [.int .i64 0,.bool false,.slice none 0 0,.slice none 0 0] (.slice (some ⟨gr,0,none⟩) ss.length cr) (.slice Ad dd.length cd) (retoldTo l md ms j) md))
  case atStart=>exact ⟨0,rfl,⟨by omega⟩,⟨by rw [retoldTo_zero];exact SM.out⟩⟩
  case round =>
   obtain ⟨j,rfl,HJ,SL⟩:=hrel
   clear SM kgo1
   by_cases hlt:j<ss.length
   ·cases gk with
    | zero=>exact absurd HJ.out (by omega)
    | succ gk =>
     have hlt':decide ((j:Int)<(ss.length:Int))=true:=decide_eq_true (by omega)
     have q0:(0:Int)≤(j:Int):=by omega
     have q1:(j:Int)<(ss.length:Int):=by omega
     have q2:ss.length≤60:=by have:=HN.out;omega
     go_upto_block 4 with fail
     go_cut [14] from 132 to 147 (fun v14 wx=>Aside0 (SpSt w wx gl gz go ge gd [.int .i64 n,.slice A l.length c] [.bool true,.slice A1 ss.length c1,.slice A2 dd.length c2] [.bool true,.slice (some ⟨gr,0,none⟩) ss.length cr,.slice Ad dd.length cd] [.int .i64 op,.int .i64 of,.int .i64 dir] [.int .i64 0,.bool false,.slice none 0 0,.slice none 0 0] (.slice (some ⟨gr,0,none⟩) ss.length cr) (.slice Ad dd.length cd) (retoldTo l md ms (j+1)) md))
     case first =>
      have HML:=Aside0.mk (show md.length=l.length by rw [HLD.out];exact HN.out.2.2.1)
      have n1:gr ≠ go:=fun e=>Kd.R_ne SL.out.D.H1 SL.out.D.hs (by decide) (by rw [e];rfl)
      have n2:gr ≠ gl:=fun e=>Kd.R_ne SL.out.D.H1 SL.out.D.hl (by decide) (by rw [e];rfl)
      have SD:=Aside0.mk (SL.out.up (below_drew1 (Below.refl wr.heap.size wr)))
      have kgl0:wr.cell? ⟨gl,0,none⟩=some (.int .i64 n):=(blk_cell SL.out.D.hl 0).trans rfl
      have kgl1:wr.cell? ⟨gl,1,none⟩=some (.slice A l.length c):=(blk_cell SL.out.D.hl 1).trans rfl
      have kgo1:wr.cell? ⟨go,1,none⟩=some (.slice (some ⟨gr,0,none⟩) ss.length cr):=(blk_cell SL.out.D.hs 1).trans rfl
      have kgo2:wr.cell? ⟨go,2,none⟩=some (.slice Ad dd.length cd):=(blk_cell SL.out.D.hs 2).trans rfl
      obtain ⟨z0,z1,z2,z3,z4,-,-,-,-,-⟩:=sec_at SL.out.D.H1 (j:Int) q0 q1
      rw [Int.toNat_natCast] at z0 z1 z2 z3 z4
      have HLN:=Aside0.mk (show (retoldTo l md ms j).length=ss.length by rw [retoldTo_length,HLM.out])
      have HLM2:=Aside0.mk (show dd.length=md.length from HLD.out.symm)
      have HJN:=Aside0.mk (show (j:Int)<n by have:=HN.out;omega)
      have HRS:=Aside0.mk (retold_step l md ms j (by rw [HLM.out];exact hlt))
      generalize hx:rd_T87 (retoldTo l md ms j) (j:Int)=x at z0 z1 z2 z3 z4 HRS
      have HX:=Aside0.mk hx
      clear hx
      go_upto_region 38 with fail
      have dkgl0:wr.drew.cell? ⟨gl,0,none⟩=some (.int .i64 n):=kgl0
      have dkgl1:wr.drew.cell? ⟨gl,1,none⟩=some (.slice A l.length c):=kgl1
      have dkgo1:wr.drew.cell? ⟨go,1,none⟩=some (.slice (some ⟨gr,0,none⟩) ss.length cr):=kgo1
      have dkgo2:wr.drew.cell? ⟨go,2,none⟩=some (.slice Ad dd.length cd):=kgo2
      have dz0:wr.drew.cell? ⟨gr,j * 5,none⟩=some (.int .i64 x.f0):=z0
      have dz1:wr.drew.cell? ⟨gr,j * 5+1,none⟩=some (.int .i64 x.f1):=z1
      have dz2:wr.drew.cell? ⟨gr,j * 5+2,none⟩=some (.bool x.f2):=z2
      have dz3:wr.drew.cell? ⟨gr,j * 5+3,none⟩=some (.bool x.f3):=z3
      have dz4:wr.drew.cell? ⟨gr,j * 5+4,none⟩=some (.int .i64 x.f4):=z4
      refine start_ (n:=16) (S:=fun w'=>w'.cell? ⟨gl,0,none⟩=some (.int .i64 n)∧w'.cell? ⟨gl,1,none⟩=some (.slice A l.length c)∧w'.cell? ⟨go,1,none⟩=some (.slice (some ⟨gr,0,none⟩) ss.length cr)∧w'.cell? ⟨go,2,none⟩=some (.slice Ad dd.length cd)∧w'.cell? ⟨gr,j * 5,none⟩=some (.int .i64 x.f0)∧w'.cell? ⟨gr,j * 5+1,none⟩=some (.int .i64 x.f1)∧w'.cell? ⟨gr,j * 5+2,none⟩=some (.bool x.f2)∧w'.cell? ⟨gr,j * 5+3,none⟩=some (.bool x.f3)∧w'.cell? ⟨gr,j * 5+4,none⟩=some (.int .i64 x.f4)) (ds:=[15]) #[false,false,false,false,false,false,false,false,false,false,false,false,false,false,false,false] (by kernel_rfl) rfl rfl ⟨dkgl0,dkgl1,dkgo1,dkgo2,dz0,dz1,dz2,dz3,dz4⟩ (fun hHeld=>?_);refine with_tabW sd_tab38 sd_bits38 (fun HT_ HW_=>?_)
      refine pure_ (i:=0) (N:=some 133) (v:=?_) (a':=?_) #[true,false,false,false,false,false,false,false,false,false,false,false,false,false,false,false] rfl rfl (any_of HT_.out (by kernel_rfl)) (fun _ _ _ h=>h) (Or.inl ⟨by rfl,?_⟩) ?_ ?_
      rotate_left
      ·intro w'
       go_simp
       with_reducible rfl
      rotate_left
      ·simp only [Act.put,List.setIfInBounds_toArray,List.set_cons_zero,List.set_cons_succ,i64_w,i32_w]
       rfl
      refine take_ (i:=1) (N:=some 134) (v:=?_) (a':=?_) #[true,true,false,false,false,false,false,false,false,false,false,false,false,false,false,false] rfl rfl (take_ofW HT_.out HW_.out (by kernel_rfl)) (fun _ _ _ h=>h) (Or.inl ⟨by rfl,?_⟩) hHeld ?_ ?_
      rotate_left
      ·rintro w' ⟨s0,s1,s2,s3,s4,s5,s6,s7,s8⟩
       go_simp
       with_reducible rfl
      rotate_left
      ·simp only [Act.put,List.setIfInBounds_toArray,List.set_cons_zero,List.set_cons_succ,i64_w,i32_w]
       rfl
      refine pure_ (i:=2) (N:=some 135) (v:=?_) (a':=?_) #[true,true,true,false,false,false,false,false,false,false,false,false,false,false,false,false] rfl rfl (any_of HT_.out (by kernel_rfl)) (fun _ _ _ h=>h) (Or.inl ⟨by rfl,?_⟩) ?_ ?_
      rotate_left
      ·intro w'
       go_simp
       with_reducible rfl
      rotate_left
      ·simp only [Act.put,List.setIfInBounds_toArray,List.set_cons_zero,List.set_cons_succ,i64_w,i32_w]
       rfl
      refine take_ (i:=3) (N:=some 136) (v:=?_) (a':=?_) #[true,true,true,true,false,false,false,false,false,false,false,false,false,false,false,false] rfl rfl (take_ofW HT_.out HW_.out (by kernel_rfl)) (fun _ _ _ h=>h) (Or.inl ⟨by rfl,?_⟩) hHeld ?_ ?_
      rotate_left
      ·rintro w' ⟨s0,s1,s2,s3,s4,s5,s6,s7,s8⟩
       go_simp
       with_reducible rfl
      rotate_left
      ·simp only [Act.put,List.setIfInBounds_toArray,List.set_cons_zero,List.set_cons_succ,i64_w,i32_w]
       rfl
      refine pure_ (i:=4) (N:=some 137) (v:=?_) (a':=?_) #[true,true,true,true,true,false,false,false,false,false,false,false,false,false,false,false] rfl rfl (any_of HT_.out (by kernel_rfl)) (fun _ _ _ h=>h) (Or.inl ⟨by rfl,?_⟩) ?_ ?_
      rotate_left
      ·intro w'
       go_simp
       with_reducible rfl
      rotate_left
      ·simp only [Act.put,List.setIfInBounds_toArray,List.set_cons_zero,List.set_cons_succ,i64_w,i32_w]
       rfl
      refine take_ (i:=5) (N:=some 138) (v:=?_) (a':=?_) #[true,true,true,true,true,true,false,false,false,false,false,false,false,false,false,false] rfl rfl (take_ofW HT_.out HW_.out (by kernel_rfl)) (fun _ _ _ h=>h) (Or.inl ⟨by rfl,?_⟩) hHeld ?_ ?_
      rotate_left
      ·rintro w' ⟨s0,s1,s2,s3,s4,s5,s6,s7,s8⟩
       go_simp
       with_reducible rfl
      rotate_left
      ·simp only [Act.put,List.setIfInBounds_toArray,List.set_cons_zero,List.set_cons_succ,i64_w,i32_w]
       rfl
      refine pure_ (i:=6) (N:=some 139) (v:=?_) (a':=?_) #[true,true,true,true,true,true,true,false,false,false,false,false,false,false,false,false] rfl rfl (any_of HT_.out (by kernel_rfl)) (fun _ _ _ h=>h) (Or.inl ⟨by rfl,?_⟩) ?_ ?_
      rotate_left
      ·intro w'
       go_simp
       with_reducible rfl
      rotate_left
      ·simp only [Act.put,List.setIfInBounds_toArray,List.set_cons_zero,List.set_cons_succ,i64_w,i32_w]
       rfl
      refine pure_ (i:=7) (N:=some 140) (v:=?_) (a':=?_) #[true,true,true,true,true,true,true,true,false,false,false,false,false,false,false,false] rfl rfl (any_of HT_.out (by kernel_rfl)) (fun _ _ _ h=>h) (Or.inl ⟨by rfl,?_⟩) ?_ ?_
      rotate_left
      ·intro w'
       go_simp
       with_reducible rfl
      rotate_left
      ·simp only [Act.put,List.setIfInBounds_toArray,List.set_cons_zero,List.set_cons_succ,i64_w,i32_w]
       rfl
      refine take_ (i:=8) (N:=some 141) (v:=?_) (a':=?_) #[true,true,true,true,true,true,true,true,true,false,false,false,false,false,false,false] rfl rfl (take_ofW HT_.out HW_.out (by kernel_rfl)) (fun _ _ _ h=>h) (Or.inl ⟨by rfl,?_⟩) hHeld ?_ ?_
      rotate_left
      ·rintro w' ⟨s0,s1,s2,s3,s4,s5,s6,s7,s8⟩
       go_simp
       with_reducible rfl
      rotate_left
      ·simp only [Act.put,List.setIfInBounds_toArray,List.set_cons_zero,List.set_cons_succ,i64_w,i32_w]
       rfl
      refine pure_ (i:=9) (N:=some 142) (v:=?_) (a':=?_) #[true,true,true,true,true,true,true,true,true,true,false,false,false,false,false,false] rfl rfl (any_of HT_.out (by kernel_rfl)) (fun _ _ _ h=>h) (Or.inl ⟨by rfl,?_⟩) ?_ ?_
      rotate_left
      ·intro w'
       go_simp
       with_reducible rfl
      rotate_left
      ·simp only [Act.put,List.setIfInBounds_toArray,List.set_cons_zero,List.set_cons_succ,i64_w,i32_w]
       rfl
      refine pure_ (i:=10) (N:=some 143) (v:=?_) (a':=?_) #[true,true,true,true,true,true,true,true,true,true,true,false,false,false,false,false] rfl rfl (any_of HT_.out (by kernel_rfl)) (fun _ _ _ h=>h) (Or.inl ⟨by rfl,?_⟩) ?_ ?_
      rotate_left
      ·intro w'
       go_simp
       with_reducible rfl
      rotate_left
      ·simp only [Act.put,List.setIfInBounds_toArray,List.set_cons_zero,List.set_cons_succ,i64_w,i32_w]
       rfl
      refine take_ (i:=11) (N:=some 144) (v:=?_) (a':=?_) #[true,true,true,true,true,true,true,true,true,true,true,true,false,false,false,false] rfl rfl (take_ofW HT_.out HW_.out (by kernel_rfl)) (fun _ _ _ h=>h) (Or.inl ⟨by rfl,?_⟩) hHeld ?_ ?_
      rotate_left
      ·rintro w' ⟨s0,s1,s2,s3,s4,s5,s6,s7,s8⟩
       go_simp
       with_reducible rfl
      rotate_left
      ·simp only [Act.put,List.setIfInBounds_toArray,List.set_cons_zero,List.set_cons_succ,i64_w,i32_w]
       rfl
      refine one_ (i:=12) (N:=some 145) #[true,true,true,true,true,true,true,true,true,true,true,true,true,false,false,false] rfl rfl (one_of HT_.out (by kernel_rfl)) (by decide) (fun K hK=>?_)
      refine goes_ Tryd.func72 (by kernel_rfl) rfl #[.agg #[.int .i64 n,.slice A l.length c],.slice Ad dd.length cd,.int .i64 (j:Int),.agg #[.int .i64 x.f0,.int .i64 x.f1,.bool x.f2,.bool x.f3,.int .i64 x.f4]] (by rfl) rfl rfl (by (try simp only [List.map_toArray,List.map_cons,List.map_nil]);first|done|rfl|(simp only [List.length_drop,List.length_take];rfl)) ?_
      with_reducible refine (stold_of (j:Int) x (Kd.C_below HR.out SD.out.D.hB) hc SD.out.D.H2 HLM2.out HN.out.1 q0 HJN.out HML.out).mono ?_;rintro e w' ⟨rfl,hb⟩
      refine ⟨_,rfl,?_⟩
      have S2:=Aside0.mk (SD.out.up hb)
      obtain ⟨zz,-,-,-,-,zf,-,-,-,-⟩:=sec_at S2.out.D.H1 (j:Int) q0 q1
      rw [Int.toNat_natCast] at zz zf
      refine hK.out _ _ ⟨pw_cell_below hb hHeld.1,pw_cell_below hb hHeld.2.1,pw_cell_below hb hHeld.2.2.1,pw_cell_below hb hHeld.2.2.2.1,pw_cell_below hb hHeld.2.2.2.2.1,pw_cell_below hb hHeld.2.2.2.2.2.1,pw_cell_below hb hHeld.2.2.2.2.2.2.1,pw_cell_below hb hHeld.2.2.2.2.2.2.2.1,pw_cell_below hb hHeld.2.2.2.2.2.2.2.2⟩ (fun hHeld=>?_)
      clear hK K
      refine norm_ (a':=?_) ?_ ?_
      rotate_left
      ·show Act.put _ (some 145) _=_
       simp only [Act.put,List.setIfInBounds_toArray,List.set_cons_zero,List.set_cons_succ,i64_w,i32_w]
       rfl
      refine pure_ (i:=13) (N:=some 146) (v:=?_) (a':=?_) #[true,true,true,true,true,true,true,true,true,true,true,true,true,true,false,false] rfl rfl (any_of HT_.out (by kernel_rfl)) (fun _ _ _ h=>h) (Or.inl ⟨by rfl,?_⟩) ?_ ?_
      rotate_left
      ·intro w'
       go_simp
       with_reducible rfl
      rotate_left
      ·simp only [Act.put,List.setIfInBounds_toArray,List.set_cons_zero,List.set_cons_succ,i64_w,i32_w]
       rfl
      refine pure_ (i:=14) (N:=some 147) (v:=?_) (a':=?_) #[true,true,true,true,true,true,true,true,true,true,true,true,true,true,true,false] rfl rfl (any_of HT_.out (by kernel_rfl)) (fun _ _ _ h=>h) (Or.inl ⟨by rfl,?_⟩) ?_ ?_
      rotate_left
      ·intro w'
       go_simp
       with_reducible rfl
      rotate_left
      ·simp only [Act.put,List.setIfInBounds_toArray,List.set_cons_zero,List.set_cons_succ,i64_w,i32_w]
       rfl
      refine last_ (i:=15) (N:=none) #[true,true,true,true,true,true,true,true,true,true,true,true,true,true,true,true] rfl rfl (one_of HT_.out (by kernel_rfl)) (by decide) (fun K hK=>?_)
      refine skip_ (w1:=?_) (by rfl) rfl ?_ ?_
      rotate_left
      ·go_simp
       rfl
      refine hK.out _ _ ?_
      clear hK K
      refine done_ (done_of HT_.out (by kernel_rfl)) ?_
      go_wp2_with fail
      go_meet
      obtain ⟨hR,hg⟩:=(SecSt.start S2.out.D.H1 q0 q1).put0 q0 q1 (u:=toldC l md (j:Int) x) (show j * 5=(j:Int).toNat * 5+0 by rw [Int.toNat_natCast,Nat.add_zero])
      rw [HX.out] at hR
      rw [HRS.out] at hR
      exact ⟨S2.out.sec hR hg⟩
     case rest =>
      go_wp2_with fail
      go_roundg gk
      case measure=>omega
      case rel=>exact ⟨j+1,by go_num,⟨by have:=HJ.out;omega⟩,hcut⟩
   have hlt':decide ((j:Int)<(ss.length:Int))=false:=decide_eq_false (by omega)
   have hj:j=ss.length:=by have:=HJ.out;omega
   have hre:retoldTo l md ms j=retold l md ms:=by rw [retold,HLM.out,hj]
   have SF0:=Aside0.mk (show SpSt w wr gl gz go ge gd [.int .i64 n,.slice A l.length c] [.bool true,.slice A1 ss.length c1,.slice A2 dd.length c2] [.bool true,.slice (some ⟨gr,0,none⟩) ss.length cr,.slice Ad dd.length cd] [.int .i64 op,.int .i64 of,.int .i64 dir] [.int .i64 0,.bool false,.slice none 0 0,.slice none 0 0] (.slice (some ⟨gr,0,none⟩) ss.length cr) (.slice Ad dd.length cd) (doSecs l ss dd op of dir) md by rw [← HDS.out,← hre];exact SL.out)
   clear hj hre SL
   have kgo0:wr.cell? ⟨go,0,none⟩=some (.bool true):=(blk_cell SF0.out.D.hs 0).trans rfl
   have kgo1:wr.cell? ⟨go,1,none⟩=some (.slice (some ⟨gr,0,none⟩) ss.length cr):=(blk_cell SF0.out.D.hs 1).trans rfl
   have kgo2:wr.cell? ⟨go,2,none⟩=some (.slice Ad dd.length cd):=(blk_cell SF0.out.D.hs 2).trans rfl
   have kd0:wr.cell? ⟨gd,0,none⟩=some (.int .i64 0):=(blk_cell SF0.out.D.hd 0).trans rfl
   have kz0:=blk_frozen SF0.out.D.hd 0
   have kd1:wr.cell? ⟨gd,1,none⟩=some (.bool false):=(blk_cell SF0.out.D.hd 1).trans rfl
   have kz1:=blk_frozen SF0.out.D.hd 1
   have kd2:wr.cell? ⟨gd,2,none⟩=some (.slice none 0 0):=(blk_cell SF0.out.D.hd 2).trans rfl
   have kz2:=blk_frozen SF0.out.D.hd 2
   have kd3:wr.cell? ⟨gd,3,none⟩=some (.slice none 0 0):=(blk_cell SF0.out.D.hd 3).trans rfl
   have kz3:=blk_frozen SF0.out.D.hd 3
   go_wp2_with fail
   have SF:=SF0.out.D.fill (y0:=.int .i64 code) (y1:=.bool true) (y2:=(.slice (some ⟨gr,0,none⟩) ss.length cr)) (y3:=(.slice Ad dd.length cd))
   exact bodyPost_ret (results_cell_row rfl _ _ gd 85 _ (0,0) _ rfl SF.hd Tryd.underlying85 rfl (by kernel_rfl)) rfl ⟨_,_,by rw [HQ.out],SF.H1,by rw [HMD.out];exact SF.H2,SF.hB⟩
end Go.Proofs.YtpdnabhpkdchjaaDoor.P
namespace Go.Proofs.YtpdnabhpkdchjaaDoor.P
open Go.RowKit Go.Proofs.YtpdnabhpkdchjaaDoorW.PrintWords Go.Proofs.YtpdnabhpkdchjaaDoorW.PrintLast Go.Proofs.YtpdnabhpkdchjaaDoorW.PrintMore
attribute [local go_sem ↓] Go.wp_at_zero Go.wp_at_succ
set_option linter.unusedVariables false
set_option linter.unusedSimpArgs false
theorem doCode_ne (l:List S98) (ss:List S87) (dd:List Bool) (op of:Int):doCode l ss dd op of ≠ 1:=by
 unfold doCode
 split
 ·split <;> decide
 split
 ·split
  ·decide
  split <;> decide
 decide
section
variable {w0 wr w w' w1 : World} {gl gs gd : Nat} {lv sv dv : List Value} {u1 u2 v v1 v2 v3 : Value} {s : S83} {ss : List S87} {dd : List Bool} {out : List S85}
theorem RnSt.midC {b:Bool} {x0 x1 x2 x3:Value} (h:RnSt w0 wr gl gs lv sv u1 u2 s v out) (hb:Below wr.heap.size wr w) (hd:w.heap[gd]?=some (.cells #[x0,x1,x2,x3] 85 (0,0))) (gde:wr.heap.size≤gd) (R1:Kd.R k87 87 w wr.heap.size (fun _=>True) v2 ss) (R2:Kd.R Kd.bool 4 w wr.heap.size (fun _=>True) v3 dd) :
  MdSt w0 wr (((w.setCell ⟨gd,1,none⟩ (.bool b)).setCell ⟨gd,2,none⟩ v2).setCell ⟨gd,3,none⟩ v3) gl gs gd lv sv [x0,.bool b,v2,v3] v2 v3 ss dd v out:=by
 have n1:=Kd.R_ne R1 hd (by decide)
 have n2:=Kd.R_ne R2 hd (by decide)
 exact h.mid (below_set (below_set (below_set hb gde) gde) gde) (blk_put (blk_put (blk_put hd 1 _ rfl) 2 _ rfl) 3 _ rfl) gde (R_off rfl (R_off rfl (R_off rfl R1 n1 _) n1 _) n1 _) (R_off rfl (R_off rfl (R_off rfl R2 n2 _) n2 _) n2 _)
theorem MdSt.setS {x0 x1 x2:Value} (h:MdSt w0 wr w gl gs gd lv [x0,x1,x2] dv v2 v3 ss dd v out) (y:Value) :
  MdSt w0 wr (((w.setCell ⟨gs,0,none⟩ y).setCell ⟨gs,1,none⟩ v2).setCell ⟨gs,2,none⟩ v3) gl gs gd lv [y,v2,v3] dv v2 v3 ss dd v out:=by
 have n1:=Kd.R_ne h.R1 h.hs (by decide)
 have n2:=Kd.R_ne h.R2 h.hs (by decide)
 have nl:=blk_ne h.hl h.hs (by decide)
 have nd:=blk_ne h.hd h.hs (by decide)
 have hq:∀ q,q ∈ 85 :: k85.E→q ≠ 83:=by decide
 have s0:=blk_put h.hs 0 y rfl
 have s1:=blk_put s0 1 v2 rfl
 have s2:=blk_put s1 2 v3 rfl
 exact {
  hl:=blk_far (blk_far (blk_far h.hl nl _) nl _) nl _
  hs:=s2
  hd:=blk_far (blk_far (blk_far h.hd nd _) nd _) nd _
  R1:=R_off rfl (R_off rfl (R_off rfl h.R1 n1 _) n1 _) n1 _
  R2:=R_off rfl (R_off rfl (R_off rfl h.R2 n2 _) n2 _) n2 _
  HS:=Kd.S_set (Kd.S_set (Kd.S_set h.HS h.hs hq 0 _) s0 hq 1 _) s1 hq 2 _
  hB:=below_set (below_set (below_set h.hB h.gse) h.gse) h.gse
  gle:=h.gle
  gse:=h.gse
  gde:=h.gde
  hw:=h.hw }
theorem MdSt.fin2 (h:MdSt w0 wr w gl gs gd lv sv dv v2 v3 ss dd v out) {code:Int} {b:Bool} (HS1:Kd.S k85 85 w1 w0.heap.size (fun _=>True) v1 (out ++ [⟨code,⟨b,ss,dd⟩⟩])) (hB1:Below w0.heap.size w0 w1) (hg:w.grownBy w1 v.ownBlock) :
  RnSt w0 w1 gl gs lv sv v2 v3 ⟨b,ss,dd⟩ v1 (out ++ [⟨code,⟨b,ss,dd⟩⟩]) where
 hl:=blk_grown h.hl hg (Kd.S_ne h.HS h.hl (by decide))
 hs:=blk_grown h.hs hg (Kd.S_ne h.HS h.hs (by decide))
 V1:=Kd.V_grown (Kd.R_V (Kd.R_tight rfl h.R1)) hg (fun k hk=>h.okp_ne (.inl hk))
 V2:=Kd.V_grown (Kd.R_V (Kd.R_tight rfl h.R2)) hg (fun k hk=>h.okp_ne (.inr hk))
 HS:=HS1
 hB:=hB1
 gle:=h.gle
 gse:=h.gse
end
set_option maxHeartbeats 8000000 in
set_option maxRecDepth 100000 in
theorem srun_is (n:Int) (A:Option Addr) (c:Nat) (l:List S98) (A1:Option Addr) (c1:Nat) (es:List S52) (w:World) (hr:Kd.C k98 w A l.length l) (hc:l.length≤c) (hr1:Kd.C k52 w A1 es.length es) (hc1:es.length≤c1) :
  Calls Tryd.prog 45 #[.agg #[.int .i64 n,.slice A l.length c],.slice A1 es.length c1] w fun e w'=>∃ v0_:Value,e=.returned (v0_)∧Kd.S k85 85 w' w.heap.size (fun _=>True) v0_ (run n l es)∧Below w.heap.size w w':=by
 have HR:=Aside0.mk hr
 have HC:=Aside0.mk hc
 have HR1:=Aside0.mk hr1
 have HC1:=Aside0.mk hc1
 clear hr hc hr1 hc1
 by_cases hl:layoutOk n l=0
 ·by_cases he:es.length≤2000
  ·skip
   have b0:(layoutOk n l != 0)=false:=bne_eq_false_iff_eq.mpr hl
   have b1:decide ((es.length:Int) > 2000)=false:=decide_eq_false (by omega)
   have HL:=Aside0.mk hl
   have HE:=Aside0.mk he
   have HN:=Aside0.mk (lay_n hl)
   clear hl he
   go_enter Tryd.func45,Tryd.ntmps45
   go_upto_region 4 with (first|((with_reducible refine gate_dst (N:=2) rfl ?_);refine box_event ?hg (N:=2) ?hd (cs:=#[.int .i64 n,.slice A l.length c]) (t:=31) ?hr ?_;(case hd=>rfl);(case hg=>rfl);(case hr=>first|(go_simp;done)|(go_simp;rfl));intro gl el wl kl bl;have hcz0:=(blk_cell kl 0).trans (show _=some (Value.int .i64 n) from rfl);have hcz1:=(blk_cell kl 1).trans (show _=some (Value.slice A l.length c) from rfl);have KL:=Aside0.mk kl;have BL:=Aside0.mk bl;have GL:=Aside0.mk (show w.heap.size≤gl by rw [el];exact Nat.le_refl _);clear kl bl el)|(go_at_call 38;refine (slay_is (Kd.C_below HR.out BL.out) HC.out).mono ?_;rintro e w1 ⟨rfl,hb⟩;have KL:=Aside0.mk (blk_below KL.out hb);have BL:=Aside0.mk (below_step BL.out hb);clear hb;have hcy0:=(blk_cell KL.out 0).trans (show _=some (Value.int .i64 n) from rfl);have hcy1:=(blk_cell KL.out 1).trans (show _=some (Value.slice A l.length c) from rfl))|(go_at_call 58;refine (sbegin_is (Kd.C_below HR.out BL.out) HC.out HL.out).mono ?_;rintro e w2 ⟨v1,v2,rfl,r1,r2,hb⟩;obtain ⟨a1,d1,rfl⟩:=Kd.R_slice r1;obtain ⟨a2,d2,rfl⟩:=Kd.R_slice r2;have R1:=Aside0.mk (Kd.R_lower r1 BL.out.size);have R2:=Aside0.mk (Kd.R_lower r2 BL.out.size);have KL:=Aside0.mk (blk_below KL.out hb);have BL:=Aside0.mk (below_step BL.out hb);clear hb r1 r2)|((with_reducible refine gate_dst (N:=5) rfl ?_);refine box_event ?hg (N:=5) ?hd (cs:=#[.bool false,.slice none 0 0,.slice none 0 0]) (t:=83) ?hr ?_;(case hd=>rfl);(case hg=>rfl);(case hr=>first|(go_simp;done)|(go_simp;rfl));intro gs es_ ws ks bs;have KS:=Aside0.mk ks;have ES:=Aside0.mk es_;have BS:=Aside0.mk bs;have zs0:=blk_frozen ks 0;have zs1:=blk_frozen ks 1;have zs2:=blk_frozen ks 2;have ks0:=(blk_cell ks 0).trans (show _=some (Value.bool false) from rfl);have ks1:=(blk_cell ks 1).trans (show _=some (Value.slice none 0 0) from rfl);have ks2:=(blk_cell ks 2).trans (show _=some (Value.slice none 0 0) from rfl);clear ks es_ bs))
   clear hcz0 hcz1 hcy0 hcy1
   have BX:=Aside0.mk (below_set (j:=2) (v:=.slice a2 (st0 n l).f2.length d2) (below_set (j:=1) (v:=.slice a1 (st0 n l).f1.length d1) (below_set (j:=0) (v:=.bool true) BS.out (Nat.le_of_eq ES.out.symm)) (Nat.le_of_eq ES.out.symm)) (Nat.le_of_eq ES.out.symm))
   have KX:=Aside0.mk (blk_put (blk_put (blk_put KS.out 0 (.bool true) rfl) 1 (.slice a1 (st0 n l).f1.length d1) rfl) 2 (.slice a2 (st0 n l).f2.length d2) rfl)
   have ST:=Aside0.mk (show RnSt w (((ws.setCell ⟨gs,0,none⟩ (.bool true)).setCell ⟨gs,1,none⟩ (.slice a1 (st0 n l).f1.length d1)).setCell ⟨gs,2,none⟩ (.slice a2 (st0 n l).f2.length d2)) gl gs [.int .i64 n,.slice A l.length c] [.bool true,.slice a1 (st0 n l).f1.length d1,.slice a2 (st0 n l).f2.length d2] (.slice a1 (st0 n l).f1.length d1) (.slice a2 (st0 n l).f2.length d2) (st0 n l) (.slice none 0 0) [] from ⟨blk_below KL.out BX.out,KX.out,Kd.V_below (Kd.R_V (Kd.R_tight rfl R1.out)) BX.out,Kd.V_below (Kd.R_V (Kd.R_tight rfl R2.out)) BX.out,Kd.S_nil _ _ _ _ _,below_step BL.out BX.out,GL.out,by rw [ES.out];exact BL.out.size⟩)
   clear KL BL R1 R2 KS ES BS zs0 zs1 zs2 ks0 ks1 ks2 BX KX
   generalize (((ws.setCell ⟨gs,0,none⟩ (.bool true)).setCell ⟨gs,1,none⟩ (.slice a1 (st0 n l).f1.length d1)).setCell ⟨gs,2,none⟩ (.slice a2 (st0 n l).f2.length d2))=wa at ST ⊢
   go_wp2_with fail
   go_loopg [6,22] es.length (fun kq vo v22 w'=>∃ j:Nat,v22=.int .i64 j∧Aside0 (j+kq=es.length)∧∃ u1 u2:Value,Aside0 (RnSt w w' gl gs [.int .i64 n,.slice A l.length c] [.bool true,u1,u2] u1 u2 (stAt n l es j) vo (runTo n l es j)))
   case atStart=>exact ⟨0,rfl,⟨by omega⟩,_,_,⟨by rw [stAt_zero];exact ST.out⟩⟩
   case round =>
    clear ST
    obtain ⟨j,rfl,HJ,u1,u2,ST⟩:=hrel
    by_cases hlt:j<es.length
    ·cases gk with
     | zero=>exact absurd HJ.out (by omega)
     | succ gk =>
      have hlt':decide ((j:Int)<(es.length:Int))=true:=decide_eq_true (by omega)
      have q0:(0:Int)≤(j:Int):=by omega
      have q1:(j:Int)<(es.length:Int):=by omega
      obtain ⟨a1,d1,e1⟩:=Kd.V_slice ST.out.V1
      obtain ⟨a2,d2,e2⟩:=Kd.V_slice ST.out.V2
      subst e1 e2
      obtain ⟨ad,e,x0,x1,x2⟩:=at_T52 HR1.out (j:Int) q0 q1
      subst e
      replace x0:=pw_cell_below ST.out.hB x0
      replace x1:=pw_cell_below ST.out.hB x1
      replace x2:=pw_cell_below ST.out.hB x2
      rw [Int.toNat_natCast] at x0 x1 x2
      have HSU:=Aside0.mk (stAt_succ n l es j hlt)
      have HRU:=Aside0.mk (runTo_succ n l es j)
      have HLT:=Aside0.mk (stAt_len n l es j)
      have HSO:=Aside0.mk (stAt_ok HL.out es j)
      generalize hx:rd_T52 es (j:Int)=x at x0 x1 x2 HSU HRU
      clear hx
      generalize hst:stAt n l es j=s at ST HSU HRU HLT HSO ⊢
      clear hst
      go_upto_region 8 with ((with_reducible refine gate_dst (N:=8) rfl ?_);refine box_event ?hg (N:=8) ?hd (cs:=#[.int .i64 0,.int .i64 0,.int .i64 0]) (t:=52) ?hr ?_;(case hd=>rfl);(case hg=>rfl);(case hr=>first|(go_simp;done)|(go_simp;rfl));intro ge ee we ke be;have KE:=Aside0.mk ke;have EE:=Aside0.mk ee;have BE:=Aside0.mk be;have z0:=blk_frozen ke 0;have z1:=blk_frozen ke 1;have z2:=blk_frozen ke 2;have c0_:=(blk_cell ke 0).trans (show _=some (Value.int .i64 0) from rfl);have c1_:=(blk_cell ke 1).trans (show _=some (Value.int .i64 0) from rfl);have c2_:=(blk_cell ke 2).trans (show _=some (Value.int .i64 0) from rfl);clear ke ee be)
      have KX:=Aside0.mk (blk_put (blk_put (blk_put KE.out 0 (.int .i64 x.f0) rfl) 1 (.int .i64 x.f1) rfl) 2 (.int .i64 x.f2) rfl)
      have BX:=Aside0.mk (below_set (j:=2) (v:=.int .i64 x.f2) (below_set (j:=1) (v:=.int .i64 x.f1) (below_set (j:=0) (v:=.int .i64 x.f0) BE.out (Nat.le_of_eq EE.out.symm)) (Nat.le_of_eq EE.out.symm)) (Nat.le_of_eq EE.out.symm))
      clear KE BE EE z0 z1 z2 c0_ c1_ c2_ x0 x1 x2
      generalize (((we.setCell ⟨ge,0,none⟩ (.int .i64 x.f0)).setCell ⟨ge,1,none⟩ (.int .i64 x.f1)).setCell ⟨ge,2,none⟩ (.int .i64 x.f2))=w8 at KX BX ⊢
      have SX:=Aside0.mk (ST.out.up BX.out)
      have kl0:w8.cell? ⟨gl,0,none⟩=some (.int .i64 n):=(blk_cell (SX.out).hl 0).trans rfl
      have kl1:w8.cell? ⟨gl,1,none⟩=some (.slice A l.length c):=(blk_cell (SX.out).hl 1).trans rfl
      have ks0:w8.cell? ⟨gs,0,none⟩=some (.bool true):=(blk_cell (SX.out).hs 0).trans rfl
      have ks1:w8.cell? ⟨gs,1,none⟩=some (.slice a1 s.f1.length d1):=(blk_cell (SX.out).hs 1).trans rfl
      have ks2:w8.cell? ⟨gs,2,none⟩=some (.slice a2 s.f2.length d2):=(blk_cell (SX.out).hs 2).trans rfl
      have ke0:w8.cell? ⟨ge,0,none⟩=some (.int .i64 x.f0):=(blk_cell KX.out 0).trans rfl
      have ke1:w8.cell? ⟨ge,1,none⟩=some (.int .i64 x.f1):=(blk_cell KX.out 1).trans rfl
      have ke2:w8.cell? ⟨ge,2,none⟩=some (.int .i64 x.f2):=(blk_cell KX.out 2).trans rfl
      have HSO2:=Aside0.mk (show stateOk n l true s.f1 s.f2=true by have:=HSO.out;rw [HLT.out.2.2] at this;exact this)
      cases hok:eventOk n l x.f0 x.f1 x.f2 with
      | false =>
       have HO:=Aside0.mk hok
       clear hok
       have HST:=Aside0.mk (show runStep n l s x=⟨1,⟨true,s.f1,s.f2⟩⟩ by unfold runStep;rw [HO.out];rfl)
       go_upto_region 9 with (first|(go_at_call 59;refine (sdo_badE n A c l true a1 d1 s.f1 a2 d2 s.f2 x.f0 x.f1 x.f2 _ (Kd.C_below HR.out SX.out.hB) HC.out (Kd.V_reads' SX.out.V1).2.2 (Kd.V_reads' SX.out.V1).2.1 (Kd.V_reads' SX.out.V2).2.2 (Kd.V_reads' SX.out.V2).2.1 HSO2.out HO.out).mono ?_;rintro e wd ⟨rfl,hb⟩;have B9:=Aside0.mk (below_step BX.out hb);clear hb)|((with_reducible refine gate_dst (N:=9) rfl ?_);refine box_event ?hg (N:=9) ?hd (cs:=#[.int .i64 0,.bool false,.slice none 0 0,.slice none 0 0]) (t:=85) ?hr ?_;(case hd=>rfl);(case hg=>rfl);(case hr=>first|(go_simp;done)|(go_simp;rfl));intro gd ed wb kd bd;have KD:=Aside0.mk kd;have ED:=Aside0.mk ed;have BD:=Aside0.mk bd;have zd0:=blk_frozen kd 0;have zd1:=blk_frozen kd 1;have zd2:=blk_frozen kd 2;have zd3:=blk_frozen kd 3;have kd0:=(blk_cell kd 0).trans (show _=some (Value.int .i64 0) from rfl);have kd1:=(blk_cell kd 1).trans (show _=some (Value.bool false) from rfl);have kd2:=(blk_cell kd 2).trans (show _=some (Value.slice none 0 0) from rfl);have kd3:=(blk_cell kd 3).trans (show _=some (Value.slice none 0 0) from rfl);clear kd ed bd))
       have KF:=Aside0.mk (blk_put (blk_put (blk_put (blk_put KD.out 0 (.int .i64 1) rfl) 1 (.bool false) rfl) 2 (.slice none 0 0) rfl) 3 (.slice none 0 0) rfl)
       have GD:=Aside0.mk (show wr.heap.size≤gd by rw [ED.out];exact B9.out.size)
       have BF:=Aside0.mk (below_set (j:=3) (v:=.slice none 0 0) (below_set (j:=2) (v:=.slice none 0 0) (below_set (j:=1) (v:=.bool false) (below_set (j:=0) (v:=.int .i64 1) (below_step B9.out BD.out) GD.out) GD.out) GD.out) GD.out)
       clear kl0 kl1 ks0 ks1 ks2 ke0 ke1 ke2 kd0 kd1 kd2 kd3 zd0 zd1 zd2 zd3 KD BD B9 ED SX
       generalize ((((wb.setCell ⟨gd,0,none⟩ (.int .i64 1)).setCell ⟨gd,1,none⟩ (.bool false)).setCell ⟨gd,2,none⟩ (.slice none 0 0)).setCell ⟨gd,3,none⟩ (.slice none 0 0))=w9 at KF BF ⊢
       have S9:=Aside0.mk (ST.out.up BF.out)
       have kd0:w9.cell? ⟨gd,0,none⟩=some (.int .i64 1):=(blk_cell KF.out 0).trans rfl
       have kd1:w9.cell? ⟨gd,1,none⟩=some (.bool false):=(blk_cell KF.out 1).trans rfl
       have kd2:w9.cell? ⟨gd,2,none⟩=some (.slice none 0 0):=(blk_cell KF.out 2).trans rfl
       have kd3:w9.cell? ⟨gd,3,none⟩=some (.slice none 0 0):=(blk_cell KF.out 3).trans rfl
       have ks0:w9.cell? ⟨gs,0,none⟩=some (.bool true):=(blk_cell S9.out.hs 0).trans rfl
       have ks1:w9.cell? ⟨gs,1,none⟩=some (.slice a1 s.f1.length d1):=(blk_cell S9.out.hs 1).trans rfl
       have ks2:w9.cell? ⟨gs,2,none⟩=some (.slice a2 s.f2.length d2):=(blk_cell S9.out.hs 2).trans rfl
       have hs1:s.f1.length≤1048576:=by rw [HLT.out.1];have:=HN.out;omega
       have hs2:s.f2.length≤1048576:=by rw [HLT.out.2.1];have:=HN.out;omega
       have HS1_:=Aside0.mk hs1
       have HS2_:=Aside0.mk hs2
       clear hs1 hs2
       go_upto_region 11 with (go_at_call 60;refine (copy_is (Kd.V_reads' S9.out.V1).2.2 (Kd.V_reads' S9.out.V1).2.1 (Kd.V_reads' S9.out.V2).2.2 (Kd.V_reads' S9.out.V2).2.1 HS1_.out HS2_.out).mono ?_;rintro e wf ⟨v2,v3,rfl,r1,r2,hb⟩;obtain ⟨b2,f2,rfl⟩:=Kd.R_slice r1;obtain ⟨b3,f3,rfl⟩:=Kd.R_slice r2;have NR1:=Aside0.mk (Kd.R_lower r1 BF.out.size);have NR2:=Aside0.mk (Kd.R_lower r2 BF.out.size);have KG:=Aside0.mk (blk_below KF.out hb);have BG:=Aside0.mk (below_step BF.out hb);clear r1 r2 hb;have kd0:wf.cell? ⟨gd,0,none⟩=some (.int .i64 1):=(blk_cell KG.out 0).trans rfl;have kd1:wf.cell? ⟨gd,1,none⟩=some (.bool false):=(blk_cell KG.out 1).trans rfl;have kd2:wf.cell? ⟨gd,2,none⟩=some (.slice none 0 0):=(blk_cell KG.out 2).trans rfl;have kd3:wf.cell? ⟨gd,3,none⟩=some (.slice none 0 0):=(blk_cell KG.out 3).trans rfl;have zd0:=blk_frozen KG.out 0;have zd1:=blk_frozen KG.out 1;have zd2:=blk_frozen KG.out 2;have zd3:=blk_frozen KG.out 3)
       have HM3:=Aside0.mk (ST.out.midC (b:=true) BG.out KG.out GD.out NR1.out NR2.out)
       clear kd0 kd1 kd2 kd3 zd0 zd1 zd2 zd3 ks0 ks1 ks2 KG BG NR1 NR2 S9 KF BF
       generalize (((wf.setCell ⟨gd,1,none⟩ (.bool true)).setCell ⟨gd,2,none⟩ (.slice b2 s.f1.length f2)).setCell ⟨gd,3,none⟩ (.slice b3 s.f2.length f3))=wg at HM3 ⊢
       have kd0:wg.cell? ⟨gd,0,none⟩=some (.int .i64 (1)):=(blk_cell HM3.out.hd 0).trans rfl
       have kd1:wg.cell? ⟨gd,1,none⟩=some (.bool true):=(blk_cell HM3.out.hd 1).trans rfl
       have kd2:wg.cell? ⟨gd,2,none⟩=some (.slice b2 s.f1.length f2):=(blk_cell HM3.out.hd 2).trans rfl
       have kd3:wg.cell? ⟨gd,3,none⟩=some (.slice b3 s.f2.length f3):=(blk_cell HM3.out.hd 3).trans rfl
       have kt0:wg.cell? ⟨gs,0,none⟩=some (.bool true):=(blk_cell HM3.out.hs 0).trans rfl
       have kt1:wg.cell? ⟨gs,1,none⟩=some (.slice a1 s.f1.length d1):=(blk_cell HM3.out.hs 1).trans rfl
       have kt2:wg.cell? ⟨gs,2,none⟩=some (.slice a2 s.f2.length d2):=(blk_cell HM3.out.hs 2).trans rfl
       have zt0:=blk_frozen HM3.out.hs 0
       have zt1:=blk_frozen HM3.out.hs 1
       have zt2:=blk_frozen HM3.out.hs 2
       go_upto_region 12 with fail
       have HS4:=Aside0.mk (HM3.out.setS (.bool true))
       clear kd0 kd1 kd2 kd3 kt0 kt1 kt2 zt0 zt1 zt2
       generalize (((wg.setCell ⟨gs,0,none⟩ (.bool true)).setCell ⟨gs,1,none⟩ (.slice b2 s.f1.length f2)).setCell ⟨gs,2,none⟩ (.slice b3 s.f2.length f3))=wh at HS4 ⊢
       have kd0:wh.cell? ⟨gd,0,none⟩=some (.int .i64 (1)):=(blk_cell HS4.out.hd 0).trans rfl
       have kd1:wh.cell? ⟨gd,1,none⟩=some (.bool true):=(blk_cell HS4.out.hd 1).trans rfl
       have kd2:wh.cell? ⟨gd,2,none⟩=some (.slice b2 s.f1.length f2):=(blk_cell HS4.out.hd 2).trans rfl
       have kd3:wh.cell? ⟨gd,3,none⟩=some (.slice b3 s.f2.length f3):=(blk_cell HS4.out.hd 3).trans rfl
       go_wp2_with (at_builtin;refine Kd.S_append k85 (w0:=w) w.heap.size rfl (.tmp 38) (.tmp 40) 78 85 (.agg #[.int .i64 0,.bool false,.slice none 0 0,.slice none 0 0]) 64 rfl Tryd.underlying78 info85 rfl (by decide) (by decide) u6 (runTo n l es j) ⟨1,⟨true,s.f1,s.f2⟩⟩ [.int .i64 (1),.bool true,(.slice b2 s.f1.length f2),(.slice b3 s.f2.length f3)] (fun _=>True) (okp (.slice b2 s.f1.length f2) (.slice b3 s.f2.length f3)) rfl rfl (HS4.out.elem (1) true) (fun k hk=>⟨trivial,HS4.out.okp_ne hk⟩) (fun _ _=>trivial) HS4.out.rest HS4.out.hB HS4.out.hB.size (by rw [runTo_length];have:=HE.out;omega) ?_;intro vn wn hsn hbn hgn _;have SN:=Aside0.mk (HS4.out.fin2 hsn hbn hgn);clear hsn hbn hgn)
       go_roundg gk
       case measure=>omega
       case rel=>exact ⟨j+1,congrArg (Value.int .i64) (wrap_succ (by have:=HE.out;omega)),⟨by have:=HJ.out;omega⟩,_,_,⟨by rw [HSU.out,HRU.out,HST.out];exact SN.out⟩⟩
      | true =>
       have HO:=Aside0.mk hok
       clear hok
       have HST:=Aside0.mk (show runStep n l s x=⟨doCode l s.f1 s.f2 x.f0 x.f1,⟨true,doSecs l s.f1 s.f2 x.f0 x.f1 x.f2,doDead l s.f1 s.f2 x.f0 x.f1⟩⟩ by unfold runStep;rw [if_pos HO.out])
       have hc1:(doCode l s.f1 s.f2 x.f0 x.f1==1)=false:=beq_eq_false_iff_ne.mpr (doCode_ne _ _ _ _ _)
       generalize hcd:doCode l s.f1 s.f2 x.f0 x.f1=code at hc1 HST
       have HCD:=Aside0.mk hcd
       clear hcd
       go_upto_region 9 with (first|(go_at_call 59;refine (sdo_is n A c l true a1 d1 s.f1 a2 d2 s.f2 x.f0 x.f1 x.f2 _ (Kd.C_below HR.out SX.out.hB) HC.out (Kd.V_reads' SX.out.V1).2.2 (Kd.V_reads' SX.out.V1).2.1 (Kd.V_reads' SX.out.V2).2.2 (Kd.V_reads' SX.out.V2).2.1 HSO2.out HO.out).mono ?_;rw [HCD.out];rintro e wd ⟨v2,v3,rfl,r1,r2,hb⟩;obtain ⟨b4,f4,rfl⟩:=Kd.R_slice r1;obtain ⟨b5,f5,rfl⟩:=Kd.R_slice r2;have NR1:=Aside0.mk (Kd.R_lower r1 BX.out.size);have NR2:=Aside0.mk (Kd.R_lower r2 BX.out.size);have B9:=Aside0.mk (below_step BX.out hb);clear hb r1 r2)|((with_reducible refine gate_dst (N:=9) rfl ?_);refine box_event ?hg (N:=9) ?hd (cs:=#[.int .i64 0,.bool false,.slice none 0 0,.slice none 0 0]) (t:=85) ?hr ?_;(case hd=>rfl);(case hg=>rfl);(case hr=>first|(go_simp;done)|(go_simp;rfl));intro gd ed wb kd bd;have KD:=Aside0.mk kd;have ED:=Aside0.mk ed;have BD:=Aside0.mk bd;have zd0:=blk_frozen kd 0;have zd1:=blk_frozen kd 1;have zd2:=blk_frozen kd 2;have zd3:=blk_frozen kd 3;have kd0:=(blk_cell kd 0).trans (show _=some (Value.int .i64 0) from rfl);have kd1:=(blk_cell kd 1).trans (show _=some (Value.bool false) from rfl);have kd2:=(blk_cell kd 2).trans (show _=some (Value.slice none 0 0) from rfl);have kd3:=(blk_cell kd 3).trans (show _=some (Value.slice none 0 0) from rfl);clear kd ed bd))
       have GD:=Aside0.mk (show wr.heap.size≤gd by rw [ED.out];exact B9.out.size)
       have HM3:=Aside0.mk (ST.out.midB (code:=code) (b:=true) (below_step B9.out BD.out) KD.out GD.out (R_up NR1.out BD.out) (R_up NR2.out BD.out)).1
       clear kl0 kl1 ks0 ks1 ks2 ke0 ke1 ke2 kd0 kd1 kd2 kd3 zd0 zd1 zd2 zd3 KD BD B9 ED SX NR1 NR2
       generalize ((((wb.setCell ⟨gd,0,none⟩ (.int .i64 code)).setCell ⟨gd,1,none⟩ (.bool true)).setCell ⟨gd,2,none⟩ (.slice b4 (doSecs l s.f1 s.f2 x.f0 x.f1 x.f2).length f4)).setCell ⟨gd,3,none⟩ (.slice b5 (doDead l s.f1 s.f2 x.f0 x.f1).length f5))=wg at HM3 ⊢
       have kd0:wg.cell? ⟨gd,0,none⟩=some (.int .i64 code):=(blk_cell HM3.out.hd 0).trans rfl
       have kd1:wg.cell? ⟨gd,1,none⟩=some (.bool true):=(blk_cell HM3.out.hd 1).trans rfl
       have kd2:wg.cell? ⟨gd,2,none⟩=some (.slice b4 (doSecs l s.f1 s.f2 x.f0 x.f1 x.f2).length f4):=(blk_cell HM3.out.hd 2).trans rfl
       have kd3:wg.cell? ⟨gd,3,none⟩=some (.slice b5 (doDead l s.f1 s.f2 x.f0 x.f1).length f5):=(blk_cell HM3.out.hd 3).trans rfl
       go_upto_region 11 with fail
       clear kd0 kd1 kd2 kd3
       have kd0:wg.cell? ⟨gd,0,none⟩=some (.int .i64 (code)):=(blk_cell HM3.out.hd 0).trans rfl
       have kd1:wg.cell? ⟨gd,1,none⟩=some (.bool true):=(blk_cell HM3.out.hd 1).trans rfl
       have kd2:wg.cell? ⟨gd,2,none⟩=some (.slice b4 (doSecs l s.f1 s.f2 x.f0 x.f1 x.f2).length f4):=(blk_cell HM3.out.hd 2).trans rfl
       have kd3:wg.cell? ⟨gd,3,none⟩=some (.slice b5 (doDead l s.f1 s.f2 x.f0 x.f1).length f5):=(blk_cell HM3.out.hd 3).trans rfl
       have kt0:wg.cell? ⟨gs,0,none⟩=some (.bool true):=(blk_cell HM3.out.hs 0).trans rfl
       have kt1:wg.cell? ⟨gs,1,none⟩=some (.slice a1 s.f1.length d1):=(blk_cell HM3.out.hs 1).trans rfl
       have kt2:wg.cell? ⟨gs,2,none⟩=some (.slice a2 s.f2.length d2):=(blk_cell HM3.out.hs 2).trans rfl
       have zt0:=blk_frozen HM3.out.hs 0
       have zt1:=blk_frozen HM3.out.hs 1
       have zt2:=blk_frozen HM3.out.hs 2
       go_upto_region 12 with fail
       have HS4:=Aside0.mk (HM3.out.setS (.bool true))
       clear kd0 kd1 kd2 kd3 kt0 kt1 kt2 zt0 zt1 zt2
       generalize (((wg.setCell ⟨gs,0,none⟩ (.bool true)).setCell ⟨gs,1,none⟩ (.slice b4 (doSecs l s.f1 s.f2 x.f0 x.f1 x.f2).length f4)).setCell ⟨gs,2,none⟩ (.slice b5 (doDead l s.f1 s.f2 x.f0 x.f1).length f5))=wh at HS4 ⊢
       have kd0:wh.cell? ⟨gd,0,none⟩=some (.int .i64 (code)):=(blk_cell HS4.out.hd 0).trans rfl
       have kd1:wh.cell? ⟨gd,1,none⟩=some (.bool true):=(blk_cell HS4.out.hd 1).trans rfl
       have kd2:wh.cell? ⟨gd,2,none⟩=some (.slice b4 (doSecs l s.f1 s.f2 x.f0 x.f1 x.f2).length f4):=(blk_cell HS4.out.hd 2).trans rfl
       have kd3:wh.cell? ⟨gd,3,none⟩=some (.slice b5 (doDead l s.f1 s.f2 x.f0 x.f1).length f5):=(blk_cell HS4.out.hd 3).trans rfl
       go_wp2_with (at_builtin;refine Kd.S_append k85 (w0:=w) w.heap.size rfl (.tmp 38) (.tmp 40) 78 85 (.agg #[.int .i64 0,.bool false,.slice none 0 0,.slice none 0 0]) 64 rfl Tryd.underlying78 info85 rfl (by decide) (by decide) u6 (runTo n l es j) ⟨code,⟨true,doSecs l s.f1 s.f2 x.f0 x.f1 x.f2,doDead l s.f1 s.f2 x.f0 x.f1⟩⟩ [.int .i64 (code),.bool true,(.slice b4 (doSecs l s.f1 s.f2 x.f0 x.f1 x.f2).length f4),(.slice b5 (doDead l s.f1 s.f2 x.f0 x.f1).length f5)] (fun _=>True) (okp (.slice b4 (doSecs l s.f1 s.f2 x.f0 x.f1 x.f2).length f4) (.slice b5 (doDead l s.f1 s.f2 x.f0 x.f1).length f5)) rfl rfl (HS4.out.elem (code) true) (fun k hk=>⟨trivial,HS4.out.okp_ne hk⟩) (fun _ _=>trivial) HS4.out.rest HS4.out.hB HS4.out.hB.size (by rw [runTo_length];have:=HE.out;omega) ?_;intro vn wn hsn hbn hgn _;have SN:=Aside0.mk (HS4.out.fin2 hsn hbn hgn);clear hsn hbn hgn)
       go_roundg gk
       case measure=>omega
       case rel=>exact ⟨j+1,congrArg (Value.int .i64) (wrap_succ (by have:=HE.out;omega)),⟨by have:=HJ.out;omega⟩,_,_,⟨by rw [HSU.out,HRU.out,HST.out];exact SN.out⟩⟩
    have hlt':decide ((j:Int)<(es.length:Int))=false:=decide_eq_false (by omega)
    have hj:j=es.length:=by have:=HJ.out;omega
    have HRN:=Aside0.mk (show runTo n l es j=run n l es by rw [run,if_pos ⟨HL.out,HE.out⟩,hj])
    clear hj
    go_wp2_with fail
    go_ret
    exact ⟨_,rfl,HRN.out ▸ ST.out.HS,ST.out.hB⟩
  skip
  have b0:(layoutOk n l != 0)=false:=bne_eq_false_iff_eq.mpr hl
  have b1:decide ((es.length:Int) > 2000)=true:=decide_eq_true (by omega)
  have HV:=Aside0.mk (show ([]:List S85)=run n l es by rw [run,if_neg (fun h=>he h.2)])
  clear hl he
  go_enter Tryd.func45,Tryd.ntmps45
  go_wp2_with (first|((with_reducible refine gate_dst (N:=2) rfl ?_);refine box_event ?hg (N:=2) ?hd (cs:=#[.int .i64 n,.slice A l.length c]) (t:=31) ?hr ?_;(case hd=>rfl);(case hg=>rfl);(case hr=>first|(go_simp;done)|(go_simp;rfl));intro gl el wl kl bl;have hcz0:=(blk_cell kl 0).trans (show _=some (Value.int .i64 n) from rfl);have hcz1:=(blk_cell kl 1).trans (show _=some (Value.slice A l.length c) from rfl);have KL:=Aside0.mk kl;have BL:=Aside0.mk bl;have GL:=Aside0.mk (show w.heap.size≤gl by rw [el];exact Nat.le_refl _);clear kl bl el)|(go_at_call 38;refine (slay_is (Kd.C_below HR.out BL.out) HC.out).mono ?_;rintro e w1 ⟨rfl,hb⟩;have KL:=Aside0.mk (blk_below KL.out hb);have BL:=Aside0.mk (below_step BL.out hb);clear hb;have hcy0:=(blk_cell KL.out 0).trans (show _=some (Value.int .i64 n) from rfl);have hcy1:=(blk_cell KL.out 1).trans (show _=some (Value.slice A l.length c) from rfl)))
  go_ret
  exact ⟨_,rfl,HV.out ▸ Kd.S_nil _ _ _ _ _,BL.out⟩
 skip
 have b0:(layoutOk n l != 0)=true:=bne_iff_ne.mpr hl
 have HV:=Aside0.mk (show ([]:List S85)=run n l es by rw [run,if_neg (fun h=>hl h.1)])
 clear hl
 go_enter Tryd.func45,Tryd.ntmps45
 go_wp2_with (first|((with_reducible refine gate_dst (N:=2) rfl ?_);refine box_event ?hg (N:=2) ?hd (cs:=#[.int .i64 n,.slice A l.length c]) (t:=31) ?hr ?_;(case hd=>rfl);(case hg=>rfl);(case hr=>first|(go_simp;done)|(go_simp;rfl));intro gl el wl kl bl;have hcz0:=(blk_cell kl 0).trans (show _=some (Value.int .i64 n) from rfl);have hcz1:=(blk_cell kl 1).trans (show _=some (Value.slice A l.length c) from rfl);have KL:=Aside0.mk kl;have BL:=Aside0.mk bl;have GL:=Aside0.mk (show w.heap.size≤gl by rw [el];exact Nat.le_refl _);clear kl bl el)|(go_at_call 38;refine (slay_is (Kd.C_below HR.out BL.out) HC.out).mono ?_;rintro e w1 ⟨rfl,hb⟩;have KL:=Aside0.mk (blk_below KL.out hb);have BL:=Aside0.mk (below_step BL.out hb);clear hb;have hcy0:=(blk_cell KL.out 0).trans (show _=some (Value.int .i64 n) from rfl);have hcy1:=(blk_cell KL.out 1).trans (show _=some (Value.slice A l.length c) from rfl)))
 go_ret
 exact ⟨_,rfl,HV.out ▸ Kd.S_nil _ _ _ _ _,BL.out⟩
end Go.Proofs.YtpdnabhpkdchjaaDoor.P
namespace Go.Proofs.YtpdnabhpkdchjaaDoor.P
open Go Go.RowKit Go.Proofs.YtpdnabhpkdchjaaDoorW.PrintWords Go.Proofs.YtpdnabhpkdchjaaDoorW.PrintLast Go.Proofs.YtpdnabhpkdchjaaDoorW.PrintMore
set_option linter.unusedVariables false
set_option linter.unusedSimpArgs false
def as_T3:Bool × List (List Nat × List Nat):=(true,[([],[]),([0],[0]),([1],[1]),([2],[2]),([3],[3]),([],[]),([5],[5]),([6,2],[6]),([4,7],[4,7]),([8],[8]),([9,7,0,1,2,3,4,5,6,7,8,9],[9])])
def as_B3:List Nat:=[0,1,3,7,15,0,32,103,255,511,1023]
theorem as_tab3:rtab .any (opsOf Tryd.f21 3)=as_T3:=by kernel_rfl
theorem as_bits3:waitsOk as_T3.2 as_B3=true:=by kernel_rfl
set_option maxHeartbeats 8000000 in
set_option maxRecDepth 100000 in
theorem sans_is (n:Int) (A:Option Addr) (c:Nat) (l:List S98) (s:List UInt8) (tx:ByteArray) (htx:tx=bs s) (w:World) (hr:Kd.C k98 w A l.length l) (hc:l.length≤c) :
  Calls Tryd.prog 21 #[.agg #[.int .i64 n,.slice A l.length c],.string tx] w fun e w'=>e=.returned (.string (bs (ansE n l s)))∧Below w.heap.size w w':=by
 obtain ⟨⟨rc,rd,es⟩,hrr⟩:∃ r,readE n l s=r:=⟨_,rfl⟩
 have hf:=readE_form n l s
 rw [hrr] at hf
 have RF:=Aside0.mk hf
 have HA0:=Aside0.mk (show rc=0→ansE n l s=ansTo (run n l es) (run n l es).length by intro h;unfold ansE;rw [hrr];exact if_pos h)
 have HA1:=Aside0.mk (show rc ≠ 0→ansE n l s=wrongB rc rd by intro h;unfold ansE;rw [hrr];exact if_neg h)
 have IRD:=Aside0.mk (show ∀ w:World,Kd.C k98 w A l.length l→Calls Tryd.prog 15 #[.agg #[.int .i64 n,.slice A l.length c],.string tx] w fun e w'=>∃ v2_:Value,e=.returned (.agg #[.int .i64 rc,.int .i64 rd,v2_])∧Kd.R k52 52 w' w.heap.size (fun _=>True) v2_ es∧Below w.heap.size w w' from fun w h1=>by have:=sread_is n A c l s tx htx w h1 hc;rw [hrr] at this;exact this)
 have HR:=Aside0.mk hr
 have HC:=Aside0.mk hc
 clear hr hc htx hrr hf
 go_enter Tryd.func21,Tryd.ntmps21
 go_upto_region 1 with ((with_reducible refine gate_dst (N:=2) rfl ?_);refine box_event ?hg (N:=2) ?hd (cs:=#[.int .i64 n,.slice A l.length c]) (t:=31) ?hr ?_;(case hd=>rfl);(case hg=>rfl);(case hr=>first|(go_simp;done)|(go_simp;rfl));intro gl el wl kl bl;have EL:=Aside0.mk el;have KL:=Aside0.mk kl;have BL:=Aside0.mk bl;clear el kl bl;have kl0:wl.cell? ⟨gl,0,none⟩=some (.int .i64 n):=(blk_cell KL.out 0).trans rfl;have zkl0:=blk_frozen KL.out 0;have kl1:wl.cell? ⟨gl,1,none⟩=some (.slice A l.length c):=(blk_cell KL.out 1).trans rfl;have zkl1:=blk_frozen KL.out 1)
 go_upto_region 2 with (first|(go_at_call 15;refine (IRD.out _ (Kd.C_below HR.out BL.out)).mono ?_;rintro e w1 ⟨v2,rfl,hs,hb⟩;obtain ⟨A2,c2,rfl⟩:=Kd.R_slice hs;have RE:=Aside0.mk (Kd.R_reads' hs);have B1:=Aside0.mk (below_step BL.out hb);have KL:=Aside0.mk (blk_below KL.out hb);clear hs hb kl0 zkl0 kl1 zkl1)|((with_reducible refine gate_dst (N:=5) rfl ?_);refine box_event ?hg (N:=5) ?hd (cs:=#[.int .i64 0,.int .i64 0,.slice none 0 0]) (t:=39) ?hr ?_;(case hd=>rfl);(case hg=>rfl);(case hr=>first|(go_simp;done)|(go_simp;rfl));intro gh eh wh kh bh;have EH:=Aside0.mk eh;have KH:=Aside0.mk kh;have BH:=Aside0.mk bh;clear eh kh bh;have kh0:wh.cell? ⟨gh,0,none⟩=some (.int .i64 0):=(blk_cell KH.out 0).trans rfl;have zkh0:=blk_frozen KH.out 0;have kh1:wh.cell? ⟨gh,1,none⟩=some (.int .i64 0):=(blk_cell KH.out 1).trans rfl;have zkh1:=blk_frozen KH.out 1;have kh2:wh.cell? ⟨gh,2,none⟩=some (.slice none 0 0):=(blk_cell KH.out 2).trans rfl;have zkh2:=blk_frozen KH.out 2))
 have FX:=Aside0.mk (fill3e (y0:=.int .i64 rc) (y1:=.int .i64 rd) (y2:=.slice A2 es.length c2) KH.out BH.out (Nat.le_of_eq EH.out.symm))
 clear kh0 zkh0 kh1 zkh1 kh2 zkh2 KH BH EH
 generalize (((wh.setCell ⟨gh,0,none⟩ (.int .i64 rc)).setCell ⟨gh,1,none⟩ (.int .i64 rd)).setCell ⟨gh,2,none⟩ (.slice A2 es.length c2))=w3 at FX ⊢
 have KH:=Aside0.mk FX.out.2
 have KL:=Aside0.mk (blk_below KL.out FX.out.1)
 have RE:=Aside0.mk (And.intro RE.out.2.1 (Kd.C_below RE.out.2.2 FX.out.1))
 have BB:=Aside0.mk (below_step B1.out FX.out.1)
 clear FX BL B1
 have kh0:w3.cell? ⟨gh,0,none⟩=some (.int .i64 rc):=(blk_cell KH.out 0).trans rfl
 have kh1:w3.cell? ⟨gh,1,none⟩=some (.int .i64 rd):=(blk_cell KH.out 1).trans rfl
 have kh2:w3.cell? ⟨gh,2,none⟩=some (.slice A2 es.length c2):=(blk_cell KH.out 2).trans rfl
 by_cases h0:rc=0
 ·have HA:=Aside0.mk (HA0.out h0)
  subst h0
  clear HA0 HA1 IRD kh1
  have HR:=Aside0.mk (Kd.C_below HR.out BB.out)
  go_upto_region 5 with fail
  obtain ⟨gs,hgs⟩:∃ g,g=w3.heap.size:=⟨_,rfl⟩
  have HG:=Aside0.mk (show (w3.alloc (.cells #[.string (⟨#[46]⟩:ByteArray),.string (⟨#[35]⟩:ByteArray),.string (⟨#[126]⟩:ByteArray),.string (⟨#[33]⟩:ByteArray)] 9)).heap[gs]?=some (.cells #[.string (⟨#[46]⟩:ByteArray),.string (⟨#[35]⟩:ByteArray),.string (⟨#[126]⟩:ByteArray),.string (⟨#[33]⟩:ByteArray)] 9 (0,0)) by rw [hgs];exact heap_alloc_new w3 _)
  have B34:=Aside0.mk (below_alloc (Below.refl w3.heap.size w3) (.cells #[.string (⟨#[46]⟩:ByteArray),.string (⟨#[35]⟩:ByteArray),.string (⟨#[126]⟩:ByteArray),.string (⟨#[33]⟩:ByteArray)] 9))
  rw [← hgs]
  clear hgs kh0 kh2
  generalize w3.alloc (.cells #[.string (⟨#[46]⟩:ByteArray),.string (⟨#[35]⟩:ByteArray),.string (⟨#[126]⟩:ByteArray),.string (⟨#[33]⟩:ByteArray)] 9)=w4 at HG B34 ⊢
  have KL:=Aside0.mk (blk_below KL.out B34.out)
  have KH:=Aside0.mk (blk_below KH.out B34.out)
  have BB:=Aside0.mk (below_step BB.out B34.out)
  have kl0:w4.cell? ⟨gl,0,none⟩=some (.int .i64 n):=(blk_cell KL.out 0).trans rfl
  have kl1:w4.cell? ⟨gl,1,none⟩=some (.slice A l.length c):=(blk_cell KL.out 1).trans rfl
  have kh2:w4.cell? ⟨gh,2,none⟩=some (.slice A2 es.length c2):=(blk_cell KH.out 2).trans rfl
  have RFR:=Aside0.mk (run_facts n l es)
  go_wp2_with (go_at_call 45;refine (srun_is n A c l A2 c2 es _ (Kd.C_below HR.out B34.out) HC.out (Kd.C_below RE.out.2 B34.out) RE.out.1).mono ?_;rintro e w5 ⟨v0,rfl,hs,hb⟩;have AN:=Aside0.mk (AnS.mk (w:=w) (v7:=.slice none 0 0) (bs:=[]) (Kd.R_nil _ _ _ _ _) hs (blk_below HG.out hb) (below_step BB.out hb));obtain ⟨A0,c0,rfl⟩:=Kd.S_slice hs;clear hs hb)
  generalize run n l es=rs at *
  clear kl0 kl1 kh2 KL KH RE HG
  go_loopg [7,35] rs.length (fun kq v7 v35 w'=>∃ i:Nat,v35=.int .i64 (i:Int)∧Aside0 (i+kq=rs.length)∧Aside0 (AnS w w4.heap.size gs v7 (ansTo rs i) (.slice A0 rs.length c0) rs w'))
  case atStart=>exact ⟨0,rfl,⟨by omega⟩,⟨by have:=AN.out;rwa [show ansTo rs 0=[] from rfl]⟩⟩
  case round =>
   clear AN
   obtain ⟨i,rfl,HX,AN⟩:=hrel
   by_cases hit:i<rs.length
   ·obtain ⟨go1,rfl⟩:∃ g,gk=g+1:=⟨gk - 1,by have:=HX.out;omega⟩
    have hit':decide ((i:Int)<(rs.length:Int))=true:=decide_eq_true (by omega)
    have r0:(0:Int)≤(i:Int):=by omega
    have r1:(i:Int)<(rs.length:Int):=by omega
    obtain ⟨ad,A3,c3,A4,c4,e,x0,x1,x2,x3,hr2⟩:=done_at AN.out.hS i hit
    subst e
    have HIT:=Aside0.mk hit
    have F1:=Aside0.mk (RFR.out.code i hit)
    have F2:=Aside0.mk (RFR.out.secs i hit)
    have F3:=Aside0.mk (RFR.out.told i hit)
    have GS:=Aside0.mk (ansTo_succ rs i hit)
    have LN:=Aside0.mk (ansTo_len RFR.out i (Nat.le_of_lt hit))
    generalize rd_T85 rs (i:Int)=d at x0 x1 x2 x3 hr2 F1 F2 F3 GS
    have DT:=Aside0.mk (doneTo_len F1.out F2.out)
    have D0:=Aside0.mk (doneTo_zero d)
    have DS:=Aside0.mk (doneTo_succ d)
    have DB:=Aside0.mk (show doneB d=doneTo d d.f1.f1.length ++ [10] from rfl)
    obtain ⟨dc,db,ss,dd⟩:=d
    dsimp only at x0 x1 x2 x3 hr2 F1 F2 F3 DB DS D0
    have R2:=Aside0.mk hr2
    have W1:=Aside0.mk (show wrap64 ((i:Int)+1)=((i+1:Nat):Int) from (wrap_id (by omega) (by have:=RFR.out.len;omega)).trans (by omega))
    clear hr2 r0 r1
    go_upto_region 9 with ((with_reducible refine gate_dst (N:=9) rfl ?_);refine box_event ?hg (N:=9) ?hd (cs:=#[.int .i64 0,.bool false,.slice none 0 0,.slice none 0 0]) (t:=85) ?hr ?_;(case hd=>rfl);(case hg=>rfl);(case hr=>first|(go_simp;done)|(go_simp;rfl));intro gd ed wd kd bd;have ED:=Aside0.mk ed;have KD:=Aside0.mk kd;have BD:=Aside0.mk bd;clear ed kd bd;have kd0:wd.cell? ⟨gd,0,none⟩=some (.int .i64 0):=(blk_cell KD.out 0).trans rfl;have zkd0:=blk_frozen KD.out 0;have kd1:wd.cell? ⟨gd,1,none⟩=some (.bool false):=(blk_cell KD.out 1).trans rfl;have zkd1:=blk_frozen KD.out 1;have kd2:wd.cell? ⟨gd,2,none⟩=some (.slice none 0 0):=(blk_cell KD.out 2).trans rfl;have zkd2:=blk_frozen KD.out 2;have kd3:wd.cell? ⟨gd,3,none⟩=some (.slice none 0 0):=(blk_cell KD.out 3).trans rfl;have zkd3:=blk_frozen KD.out 3)
    have FX:=Aside0.mk (fill4e (y0:=.int .i64 dc) (y1:=.bool db) (y2:=.slice A3 ss.length c3) (y3:=.slice A4 dd.length c4) KD.out BD.out (Nat.le_of_eq ED.out.symm))
    clear kd0 zkd0 kd1 zkd1 kd2 zkd2 kd3 zkd3 KD BD ED x0 x1 x2 x3
    generalize ((((wd.setCell ⟨gd,0,none⟩ (.int .i64 dc)).setCell ⟨gd,1,none⟩ (.bool db)).setCell ⟨gd,2,none⟩ (.slice A3 ss.length c3)).setCell ⟨gd,3,none⟩ (.slice A4 dd.length c4))=w6 at FX ⊢
    have AN:=Aside0.mk (AN.out.up FX.out.1)
    have R2:=Aside0.mk (R_up R2.out FX.out.1)
    have KD:=Aside0.mk FX.out.2
    clear FX
    have kd0:w6.cell? ⟨gd,0,none⟩=some (.int .i64 dc):=(blk_cell KD.out 0).trans rfl
    have kd2:w6.cell? ⟨gd,2,none⟩=some (.slice A3 ss.length c3):=(blk_cell KD.out 2).trans rfl
    obtain ⟨dg,hdg⟩:∃ dg:ByteArray,dg=⟨(Lib.decDigits dc.toNat).toArray⟩:=⟨_,rfl⟩
    have hds:dg.size≤5:=by rw [hdg];exact digits_small F1.out
    have sa0:(dg.size+1≤9223372036854775807)=True:=eq_true (by omega)
    have sa1:decide (dg.size+1≤9223372036854775807)=true:=decide_eq_true (by omega)
    have sa2:(9223372036854775807<dg.size+1)=False:=eq_false (by omega)
    have DG:=Aside0.mk hdg
    clear hdg hds
    go_upto_region 10 with (go_at_call 44;refine (sdec_is F1.out.1 (by have:=F1.out.2;omega)).mono ?_;rintro e w7 ⟨rfl,hb⟩;rw [← DG.out];have AN:=Aside0.mk (AN.out.up hb);have R2:=Aside0.mk (R_up R2.out hb);have KD:=Aside0.mk (blk_below KD.out hb);clear hb kd0 kd2)
    have kd2:w7.cell? ⟨gd,2,none⟩=some (.slice A3 ss.length c3):=(blk_cell KD.out 2).trans rfl
    obtain ⟨lb,hlb⟩:∃ lb:ByteArray,lb=dg ++ ⟨#[32]⟩:=⟨_,rfl⟩
    have L0:=Aside0.mk (show lb=bs (doneTo ⟨dc,⟨db,ss,dd⟩⟩ 0) by rw [hlb,DG.out,D0.out];exact bytes_app _ [32])
    rw [← hlb]
    clear sa0 sa1 sa2 hlb
    go_wp2_with fail
    clear kd2
    go_loopg [10,47] ss.length (fun kq v10 v47 w'=>∃ (j:Nat) (lb:ByteArray),v10=.string lb∧v47=.int .i64 (j:Int)∧Aside0 (j+kq=ss.length)∧Aside0 (lb=bs (doneTo ⟨dc,⟨db,ss,dd⟩⟩ j))∧Aside0 (AnS w w4.heap.size gs u7 (ansTo rs i) (.slice (some ad) rs.length c0) rs w')∧Aside0 (Kd.R k87 87 w' w4.heap.size (fun _=>True) (.slice A3 ss.length c3) ss))
    case atStart=>exact ⟨0,lb,rfl,rfl,⟨by omega⟩,L0,AN,R2⟩
    case round =>
     clear AN R2 KD L0
     obtain ⟨j,lb,rfl,rfl,HJ,HL,AN,R2⟩:=hrel
     by_cases hjt:j<ss.length
     ·obtain ⟨go2,rfl⟩:∃ g,gk=g+1:=⟨gk - 1,by have:=HJ.out;omega⟩
      have hjt':decide ((j:Int)<(ss.length:Int))=true:=decide_eq_true (by omega)
      have q0:(0:Int)≤(j:Int):=by omega
      have q1:(j:Int)<(ss.length:Int):=by omega
      obtain ⟨ads,e,x0,x1,x2,x3,x4⟩:=at_T87 (Kd.R_reads' R2.out).2.2 (j:Int) q0 q1
      subst e
      rw [Int.toNat_natCast] at x0 x1 x2 x3 x4
      have FT:=Aside0.mk (F3.out j hjt)
      have DJ:=Aside0.mk (DS.out j hjt)
      have LJ:=Aside0.mk (show lb.size≤66 by rw [HL.out,bs_size];exact DT.out j)
      generalize rd_T87 ss (j:Int)=x at x0 x1 x2 x3 x4 FT DJ
      have W2:=Aside0.mk (show wrap64 ((j:Int)+1)=((j+1:Nat):Int) from (wrap_id (by omega) (by have:=F2.out;omega)).trans (by omega))
      clear q0 q1
      go_upto_region 13 with ((with_reducible refine gate_dst (N:=12) rfl ?_);refine box_event ?hg (N:=12) ?hd (cs:=#[.int .i64 0,.int .i64 0,.bool false,.bool false,.int .i64 0]) (t:=87) ?hr ?_;(case hd=>rfl);(case hg=>rfl);(case hr=>first|(go_simp;done)|(go_simp;rfl));intro gz ez wz kz bz;have EZ:=Aside0.mk ez;have KZ:=Aside0.mk kz;have BZ:=Aside0.mk bz;clear ez kz bz;have kz0:wz.cell? ⟨gz,0,none⟩=some (.int .i64 0):=(blk_cell KZ.out 0).trans rfl;have zkz0:=blk_frozen KZ.out 0;have kz1:wz.cell? ⟨gz,1,none⟩=some (.int .i64 0):=(blk_cell KZ.out 1).trans rfl;have zkz1:=blk_frozen KZ.out 1;have kz2:wz.cell? ⟨gz,2,none⟩=some (.bool false):=(blk_cell KZ.out 2).trans rfl;have zkz2:=blk_frozen KZ.out 2;have kz3:wz.cell? ⟨gz,3,none⟩=some (.bool false):=(blk_cell KZ.out 3).trans rfl;have zkz3:=blk_frozen KZ.out 3;have kz4:wz.cell? ⟨gz,4,none⟩=some (.int .i64 0):=(blk_cell KZ.out 4).trans rfl;have zkz4:=blk_frozen KZ.out 4)
      have FX:=Aside0.mk (fill5e (y0:=.int .i64 x.f0) (y1:=.int .i64 x.f1) (y2:=.bool x.f2) (y3:=.bool x.f3) (y4:=.int .i64 x.f4) KZ.out BZ.out (Nat.le_of_eq EZ.out.symm))
      clear kz0 zkz0 kz1 zkz1 kz2 zkz2 kz3 zkz3 kz4 zkz4 KZ BZ EZ x0 x1 x2 x3 x4
      generalize (((((wz.setCell ⟨gz,0,none⟩ (.int .i64 x.f0)).setCell ⟨gz,1,none⟩ (.int .i64 x.f1)).setCell ⟨gz,2,none⟩ (.bool x.f2)).setCell ⟨gz,3,none⟩ (.bool x.f3)).setCell ⟨gz,4,none⟩ (.int .i64 x.f4))=w9 at FX ⊢
      have AN:=Aside0.mk (AN.out.up FX.out.1)
      have R2:=Aside0.mk (R_up R2.out FX.out.1)
      have ks0:w9.cell? ⟨gz,0,none⟩=some (.int .i64 x.f0):=(blk_cell FX.out.2 0).trans rfl
      clear FX
      obtain ⟨g0,g1,g2,g3⟩:=AN.out.sign
      have hls:=LJ.out
      have sa0:(lb.size+1≤9223372036854775807)=True:=eq_true (by omega)
      have sa1:decide (lb.size+1≤9223372036854775807)=true:=decide_eq_true (by omega)
      have sa2:(9223372036854775807<lb.size+1)=False:=eq_false (by omega)
      clear hls
      rcases sign_at FT.out with ⟨hb,hx⟩|⟨hb,hx⟩|⟨hb,hx⟩|⟨hb,hx⟩
      all_goals
       rw [hx] at ks0
       have LN2:=Aside0.mk (sign_app _ lb (signB x) HL.out)
       rw [hb] at LN2 DJ
       clear hb hx
       go_wp2_with fail
       go_roundg go2
       case measure=>omega
       case rel=>exact ⟨j+1,_,rfl,congrArg (Value.int .i64) W2.out,⟨by have:=HJ.out;omega⟩,⟨by rw [DJ.out];exact LN2.out⟩,AN,R2⟩
     have hjt':decide ((j:Int)<(ss.length:Int))=false:=decide_eq_false (by omega)
     have HJE:=Aside0.mk (show j=ss.length by have:=HJ.out;omega)
     have hls:lb.size≤66:=by rw [HL.out,bs_size];exact DT.out j
     have sa0:(lb.size+1≤9223372036854775807)=True:=eq_true (by omega)
     have sa1:decide (lb.size+1≤9223372036854775807)=true:=decide_eq_true (by omega)
     have sa2:(9223372036854775807<lb.size+1)=False:=eq_false (by omega)
     have LJ:=Aside0.mk hls
     clear hls
     go_wp2_with (at_builtin;refine print_append_str (w0:=w) w.heap.size rfl (.tmp 59) _ 46 9 5 rfl Tryd.underlying46 Tryd.underlying9 info5 u7 (natsB (ansTo rs i)) (lb ++ (⟨#[10]⟩:ByteArray)) rfl rfl ?aO ?aB ?aS ?aL ?_;(case aB=>exact AN.out.hB);(case aO=>exact Kd.own_of_R AN.out.hO);(case aS=>exact AN.out.hB.size);(case aL=>have:=LN.out;have:=RFR.out.len;have:=HIT.out;have:=LJ.out;unfold natsB;rw [List.length_map,ByteArray.size_append];show _+(lb.size+1)≤_;omega);intro v11 w11 ho0 hb hg;have ho:=Kd.R_of_own (h1:=fun _=>rfl) (ok:=fun _=>True) ho0 (fun _ _=>trivial);have AN:=Aside0.mk (AN.out.app (bs':=ansTo rs (i+1)) (by rw [GS.out,DB.out];have:=ho;rw [natsB_app _ _ _ HL.out,HJE.out] at this;exact this) hb hg);clear ho0 ho hb hg)
     go_roundg go1
     case measure=>omega
     case rel=>exact ⟨i+1,congrArg (Value.int .i64) W1.out,⟨by have:=HX.out;omega⟩,AN⟩
   have hit':decide ((i:Int)<(rs.length:Int))=false:=decide_eq_false (by omega)
   have HIE:=Aside0.mk (show i=rs.length by have:=HX.out;omega)
   have hcv:=own_string (P:=Tryd.prog) (src:=46) (dst:=9) Tryd.underlying46 Tryd.underlying5 Tryd.underlying9 (Kd.own_of_R AN.out.hO)
   have NB:=Aside0.mk (show strOfNums (natsB (ansTo rs i))=bs (ansTo rs i) from nums_bs _)
   rw [NB.out] at hcv
   go_wp2_with fail
   go_ret
   exact ⟨by rw [HA.out,← HIE.out];rfl,AN.out.hB⟩
 have HA:=Aside0.mk (HA1.out h0)
 have hb1:(rc != 0)=true:=by simp [h0]
 obtain ⟨dg1,hdg1⟩:∃ dg:ByteArray,dg=⟨(Lib.decDigits rc.toNat).toArray⟩:=⟨_,rfl⟩
 obtain ⟨dg2,hdg2⟩:∃ dg:ByteArray,dg=⟨(Lib.decDigits rd.toNat).toArray⟩:=⟨_,rfl⟩
 have hs1:dg1.size≤4:=by rw [hdg1];have:=digits_len rc.toNat;have:=RF.out.1;show (Lib.decDigits rc.toNat).length≤4;omega
 have hs2:dg2.size≤20001:=by rw [hdg2];have:=digits_len rd.toNat;have:=RF.out.2.1;show (Lib.decDigits rd.toNat).length≤20001;omega
 have sa0:(6+dg1.size≤9223372036854775807)=True:=eq_true (by omega)
 have sa1:decide (6+dg1.size≤9223372036854775807)=true:=decide_eq_true (by omega)
 have sa2:(9223372036854775807<6+dg1.size)=False:=eq_false (by omega)
 have sb0:(6+dg1.size+1≤9223372036854775807)=True:=eq_true (by omega)
 have sb1:decide (6+dg1.size+1≤9223372036854775807)=true:=decide_eq_true (by omega)
 have sb2:(9223372036854775807<6+dg1.size+1)=False:=eq_false (by omega)
 have sc0:(6+dg1.size+1+dg2.size≤9223372036854775807)=True:=eq_true (by omega)
 have sc1:decide (6+dg1.size+1+dg2.size≤9223372036854775807)=true:=decide_eq_true (by omega)
 have sc2:(9223372036854775807<6+dg1.size+1+dg2.size)=False:=eq_false (by omega)
 have sd0:(6+dg1.size+1+dg2.size+1≤9223372036854775807)=True:=eq_true (by omega)
 have sd1:decide (6+dg1.size+1+dg2.size+1≤9223372036854775807)=true:=decide_eq_true (by omega)
 have sd2:(9223372036854775807<6+dg1.size+1+dg2.size+1)=False:=eq_false (by omega)
 have DG1:=Aside0.mk hdg1
 have DG2:=Aside0.mk hdg2
 clear hdg1 hdg2 hs1 hs2 HA0 HA1 IRD kh2
 go_upto_region 3 with fail
 have DR:=Aside0.mk (below_drew1 (Below.refl w3.heap.size w3))
 have BB:=Aside0.mk (below_step BB.out DR.out)
 replace kh0:=pw_cell_below DR.out kh0
 replace kh1:=pw_cell_below DR.out kh1
 clear DR KL RE KH
 refine start_ (n:=11) (S:=fun w'=>w'.cell? ⟨gh,0,none⟩=some (.int .i64 rc)∧w'.cell? ⟨gh,1,none⟩=some (.int .i64 rd)) (ds:=[]) #[false,false,false,false,false,false,false,false,false,false,false] (by kernel_rfl) rfl rfl ⟨kh0,kh1⟩ (fun hHeld=>?_)
 refine with_tabW as_tab3 as_bits3 (fun HT_ HW_=>?_)
 clear kh0 kh1
 generalize w3.drew=w95 at BB hHeld ⊢
 refine pure_ (i:=0) (N:=some 19) (v:=?_) (a':=?_) #[true,false,false,false,false,false,false,false,false,false,false] rfl rfl (any_of HT_.out (by kernel_rfl)) (fun _ _ _ h=>h) (Or.inl ⟨by rfl,?_⟩) ?_ ?_
 rotate_left
 ·intro w'
  go_simp
  with_reducible rfl
 rotate_left
 ·simp only [Act.put,List.setIfInBounds_toArray,List.set_cons_zero,List.set_cons_succ,i64_w,i32_w]
  rfl
 refine take_ (i:=1) (N:=some 20) (v:=?_) (a':=?_) #[true,true,false,false,false,false,false,false,false,false,false] rfl rfl (take_ofW HT_.out HW_.out (by kernel_rfl)) (fun _ _ _ h=>h) (Or.inl ⟨by rfl,?_⟩) hHeld ?_ ?_
 rotate_left
 ·rintro w' ⟨s0,s1⟩
  go_simp
  with_reducible rfl
 rotate_left
 ·simp only [Act.put,List.setIfInBounds_toArray,List.set_cons_zero,List.set_cons_succ,i64_w,i32_w]
  rfl
 refine pure_ (i:=5) (N:=some 24) (v:=?_) (a':=?_) #[true,true,false,false,false,true,false,false,false,false,false] rfl rfl (any_of HT_.out (by kernel_rfl)) (fun _ _ _ h=>h) (Or.inl ⟨by rfl,?_⟩) ?_ ?_
 rotate_left
 ·intro w'
  go_simp
  with_reducible rfl
 rotate_left
 ·simp only [Act.put,List.setIfInBounds_toArray,List.set_cons_zero,List.set_cons_succ,i64_w,i32_w]
  rfl
 refine take_ (i:=6) (N:=some 25) (v:=?_) (a':=?_) #[true,true,false,false,false,true,true,false,false,false,false] rfl rfl (take_ofW HT_.out HW_.out (by kernel_rfl)) (fun _ _ _ h=>h) (Or.inl ⟨by rfl,?_⟩) hHeld ?_ ?_
 rotate_left
 ·rintro w' ⟨s0,s1⟩
  go_simp
  with_reducible rfl
 rotate_left
 ·simp only [Act.put,List.setIfInBounds_toArray,List.set_cons_zero,List.set_cons_succ,i64_w,i32_w]
  rfl
 refine one_ (i:=2) (N:=some 21) #[true,true,true,false,false,true,true,false,false,false,false] rfl rfl (one_of HT_.out (by kernel_rfl)) (by decide) (fun K hK=>?_)
 refine goes_ Tryd.func44 (by kernel_rfl) rfl #[.int .i64 rc] (by rfl) rfl rfl (by (try simp only [List.map_toArray,List.map_cons,List.map_nil]);first|done|rfl) ?_
 ((with_reducible refine (sdec_is (w:=_) (by have:=RF.out;omega) (by have:=RF.out;omega)).mono ?_);rintro e w1 ⟨rfl,hb⟩);rw [← DG1.out]
 refine ⟨_,rfl,?_⟩
 have BB:=Aside0.mk (below_step BB.out hb)
 refine hK.out _ _ ⟨pw_cell_below hb hHeld.1,pw_cell_below hb hHeld.2⟩ (fun hHeld=>?_)
 clear hb hK K
 refine norm_ (a':=?_) ?_ ?_
 rotate_left
 ·show Act.put _ (some 21) _=_
  simp only [Act.put,List.setIfInBounds_toArray,List.set_cons_zero,List.set_cons_succ,i64_w,i32_w]
  rfl
 refine pure_ (i:=3) (N:=some 22) (v:=?_) (a':=?_) #[true,true,true,true,false,true,true,false,false,false,false] rfl rfl (any_of HT_.out (by kernel_rfl)) (fun _ _ _ h=>h) (Or.inl ⟨by rfl,?_⟩) ?_ ?_
 rotate_left
 ·intro w'
  go_simp
  with_reducible rfl
 rotate_left
 ·simp only [Act.put,List.setIfInBounds_toArray,List.set_cons_zero,List.set_cons_succ,i64_w,i32_w]
  rfl
 refine pure_ (i:=4) (N:=some 23) (v:=?_) (a':=?_) #[true,true,true,true,true,true,true,false,false,false,false] rfl rfl (any_of HT_.out (by kernel_rfl)) (fun _ _ _ h=>h) (Or.inl ⟨by rfl,?_⟩) ?_ ?_
 rotate_left
 ·intro w'
  go_simp
  with_reducible rfl
 rotate_left
 ·simp only [Act.put,List.setIfInBounds_toArray,List.set_cons_zero,List.set_cons_succ,i64_w,i32_w]
  rfl
 refine one_ (i:=7) (N:=some 26) #[true,true,true,true,true,true,true,true,false,false,false] rfl rfl (one_of HT_.out (by kernel_rfl)) (by decide) (fun K hK=>?_)
 refine goes_ Tryd.func44 (by kernel_rfl) rfl #[.int .i64 rd] (by rfl) rfl rfl (by (try simp only [List.map_toArray,List.map_cons,List.map_nil]);first|done|rfl) ?_
 ((with_reducible refine (sdec_is (w:=_) (by have:=RF.out;omega) (by have:=RF.out;omega)).mono ?_);rintro e w1 ⟨rfl,hb⟩);rw [← DG2.out]
 refine ⟨_,rfl,?_⟩
 have BB:=Aside0.mk (below_step BB.out hb)
 refine hK.out _ _ ⟨pw_cell_below hb hHeld.1,pw_cell_below hb hHeld.2⟩ (fun hHeld=>?_)
 clear hb hK K
 refine norm_ (a':=?_) ?_ ?_
 rotate_left
 ·show Act.put _ (some 26) _=_
  simp only [Act.put,List.setIfInBounds_toArray,List.set_cons_zero,List.set_cons_succ,i64_w,i32_w]
  rfl
 refine pure_ (i:=8) (N:=some 27) (v:=?_) (a':=?_) #[true,true,true,true,true,true,true,true,true,false,false] rfl rfl (any_of HT_.out (by kernel_rfl)) (fun _ _ _ h=>h) (Or.inl ⟨by rfl,?_⟩) ?_ ?_
 rotate_left
 ·intro w'
  go_simp
  with_reducible rfl
 rotate_left
 ·simp only [Act.put,List.setIfInBounds_toArray,List.set_cons_zero,List.set_cons_succ,i64_w,i32_w]
  rfl
 refine pure_ (i:=9) (N:=some 28) (v:=?_) (a':=?_) #[true,true,true,true,true,true,true,true,true,true,false] rfl rfl (any_of HT_.out (by kernel_rfl)) (fun _ _ _ h=>h) (Or.inl ⟨by rfl,?_⟩) ?_ ?_
 rotate_left
 ·intro w'
  go_simp
  with_reducible rfl
 rotate_left
 ·simp only [Act.put,List.setIfInBounds_toArray,List.set_cons_zero,List.set_cons_succ,i64_w,i32_w]
  rfl
 refine pure_ (i:=10) (N:=some 4) (v:=?_) (a':=?_) #[true,true,true,true,true,true,true,true,true,true,true] rfl rfl (any_of HT_.out (by kernel_rfl)) (fun _ _ _ h=>h) (Or.inl ⟨by rfl,?_⟩) ?_ ?_
 rotate_left
 ·intro w'
  go_simp
  with_reducible rfl
 rotate_left
 ·simp only [Act.put,List.setIfInBounds_toArray,List.set_cons_zero,List.set_cons_succ,i64_w,i32_w]
  rfl
 refine done_ (done_of HT_.out (by kernel_rfl)) ?_
 clear hHeld HT_ HW_ sa0 sa1 sa2 sb0 sb1 sb2 sc0 sc1 sc2 sd0 sd1 sd2
 go_wp2_with fail
 go_ret
 exact ⟨by rw [HA.out,← wrong_app dg1 dg2 rc rd DG1.out DG2.out];rfl,BB.out⟩
end Go.Proofs.YtpdnabhpkdchjaaDoor.P
namespace Go.Proofs.YtpdnabhpkdchjaaDoor.P
open Go Go.RowKit Go.Proofs.YtpdnabhpkdchjaaDoorW.PrintWords Go.Proofs.YtpdnabhpkdchjaaDoorW.PrintLast Go.Proofs.YtpdnabhpkdchjaaDoorW.PrintMore
set_option linter.unusedVariables false
noncomputable def spec_Answer.f (n:Int) (l:List S98) (tx:ByteArray):Option ByteArray:=some (bs (ansE n l tx.data.toList))
theorem spec_Answer.calls (n:Int) (A:Option Addr) (c:Nat) (l:List S98) (tx:ByteArray) (r:ByteArray) (w:World) (hr:Kd.C k98 w A l.length l) (hc:l.length≤c) (h:spec_Answer.f n l tx=some r) :
  Calls Tryd.prog 21 #[.agg #[.int .i64 n,.slice A l.length c],.string tx] w fun e w'=>e=.returned (.string r)∧Below w.heap.size w w' :=
 Option.some.inj h ▸ sans_is n A c l tx.data.toList tx (bs_data tx) w hr hc
noncomputable def impl_Answer.f (n:Int) (l:List S98) (tx:ByteArray):Option ByteArray:=some (bs (ansE n l tx.data.toList))
theorem impl_Answer.calls {T:Addr} {tc:Nat} (n:Int) (A:Option Addr) (c:Nat) (l:List S98) (tx:ByteArray) (r:ByteArray) (w:World) (hr:Kd.C k98 w A l.length l) (hc:l.length≤c) (h:impl_Answer.f n l tx=some r) (hT:Tabs T tc w) :
  Calls Tryd.prog 22 #[.agg #[.int .i64 n,.slice A l.length c],.string tx] w fun e w'=>e=.returned (.string r)∧Below w.heap.size w w' :=
 Option.some.inj h ▸ ians_is n A c l tx.data.toList tx (bs_data tx) w hr hc hT
end Go.Proofs.YtpdnabhpkdchjaaDoor.P
namespace Go.Proofs.YtpdnabhpkdchjaaDoor.P
open Go.RowKit Go.Proofs.YtpdnabhpkdchjaaDoorW.PrintWords Go.Proofs.YtpdnabhpkdchjaaDoorW.PrintLast Go.Proofs.YtpdnabhpkdchjaaDoorW.PrintMore
attribute [local go_sem] max2_int min2_int max_two min_two max_three min_three max_four min_four
set_option linter.unusedVariables false
set_option linter.unusedSimpArgs false
noncomputable def laws_FnExactAnswer.f (k:Nat) (a0_0:Int) (l0_1:List (S100)) (a1:ByteArray):Option (Bool):=if (a1.size:Int) > 1048576 then (some true) else ((laws_szLayout.f a0_0 l0_1 1048576).bind fun t420=>(if t420<0 then (some true) else ((laws_toLayout.f k a0_0 l0_1).bind fun bt421=>((spec_Answer.f bt421.1 bt421.2 a1).bind fun t425=>((laws_toLayout.f k a0_0 l0_1).bind fun bt426=>((impl_Answer.f bt426.1 bt426.2 a1).bind fun t431=>(if t431.toList=t425.toList then ((laws_toLayout.f k a0_0 l0_1).bind fun bt432=>((laws_eqLayout.f k bt426.1 bt426.2 bt432.1 bt432.2).bind fun t436=>(if t436=true then (some true) else (some false)))) else (some false))))))))
set_option maxHeartbeats 8000000 in
set_option maxRecDepth 100000 in
theorem laws_FnExactAnswer.calls {T:Addr} {tc:Nat} (k:Nat) (a0_0:Int) (A0_1:Option Addr) (c0_1:Nat) (l0_1:List (S100)) (a1:ByteArray) (r:Bool) (w:World) (HT_:Aside0 (Tabs T tc w)) (hr0_1:Kd.C k100 w A0_1 l0_1.length l0_1) (hc0_1:l0_1.length≤c0_1) (HR_:Aside0 (r=true)) (h:laws_FnExactAnswer.f k a0_0 l0_1 a1=some r) :
  Calls Tryd.prog 5 #[.agg #[.int .i64 a0_0,.slice A0_1 l0_1.length c0_1],.string a1] w fun e w'=>e=.returned (.bool r)∧Below w.heap.size w w':=by
 have hu24:=Tryd.underlying24
 have hu31:=Tryd.underlying31
 have HR0_1:=Aside0.mk hr0_1
 have HC0_1:=Aside0.mk hc0_1
 clear hr0_1 hc0_1
 have HB:=Aside0.mk (Below.refl w.heap.size w)
 have H:(if (a1.size:Int) > 1048576 then (some true) else ((laws_szLayout.f a0_0 l0_1 1048576).bind fun t420=>(if t420<0 then (some true) else ((laws_toLayout.f k a0_0 l0_1).bind fun bt421=>((spec_Answer.f bt421.1 bt421.2 a1).bind fun t425=>((laws_toLayout.f k a0_0 l0_1).bind fun bt426=>((impl_Answer.f bt426.1 bt426.2 a1).bind fun t431=>(if t431.toList=t425.toList then ((laws_toLayout.f k a0_0 l0_1).bind fun bt432=>((laws_eqLayout.f k bt426.1 bt426.2 bt432.1 bt432.2).bind fun t436=>(if t436=true then (some true) else (some false)))) else (some false)))))))))=some r:=h
 clear h
 by_cases c3:(a1.size:Int) > 1048576
 ·rw [if_pos c3] at H
  have c3b0:decide (1048576<(a1.size:Int))=true:=decide_eq_true c3
  have c3b1:decide (1048576<a1.size)=true:=decide_eq_true (by omega)
  clear c3
  obtain rfl:=Option.some.inj H
  go_enter Tryd.func5,Tryd.ntmps5
  go_wp2_with (first|((with_reducible refine gate_dst (N:=2) rfl ?_);refine box_event ?hg (N:=2) ?hd (cs:=#[.int .i64 a0_0,.slice A0_1 l0_1.length c0_1]) (t:=24) ?hr ?_;(case hd=>rfl);(case hg=>rfl);(case hr=>first|(go_simp;done)|(go_simp;rfl));intro gb419 hg w4 hbox hb;have n0_:=Aside0.mk (below_step (by repeat (first|(with_reducible first|exact HB.out|apply below_alloc|apply pw_below_drewN|apply below_drew1)|exact HB.out)) hb);have n1_:=Aside0.mk (hbox);have n2_:=Aside0.mk ((by rw [hg];exact (below_size (by repeat (first|(with_reducible first|exact HB.out|apply below_alloc|apply pw_below_drewN|apply below_drew1)|exact HB.out))):w.heap.size≤gb419));have n3_:=Aside0.mk ((by rw [hg];exact (below_size (by repeat (first|(with_reducible first|exact HB.out|apply below_alloc|apply pw_below_drewN|apply below_drew1)|exact HB.out))):w.heap.size≤gb419));clear HB;have HB:=n0_;have BK419:=n1_;have GW419:=n2_;have GE419:=n3_;clear n0_ n1_ n2_ n3_;clear hb hbox hg))
  go_ret
  exact ⟨by first|rfl|(simp [errW_none,errW_some] <;> rfl)|(simp [*,errW_none,errW_some] <;> rfl),by repeat (first|(with_reducible first|exact HB.out|apply below_alloc|apply pw_below_drewN|apply below_drew1|refine below_set ?_ GE419.out)|exact HB.out)⟩
 rw [if_neg c3] at H
 have c3b0:decide (1048576<(a1.size:Int))=false:=decide_eq_false c3
 have c3b1:decide (1048576<a1.size)=false:=decide_eq_false (by omega)
 clear c3
 replace H:=Option.bind_eq_some_iff.mp H
 obtain ⟨t420,A50,H⟩:=H
 replace H:(if t420<0 then (some true) else ((laws_toLayout.f k a0_0 l0_1).bind fun bt421=>((spec_Answer.f bt421.1 bt421.2 a1).bind fun t425=>((laws_toLayout.f k a0_0 l0_1).bind fun bt426=>((impl_Answer.f bt426.1 bt426.2 a1).bind fun t431=>(if t431.toList=t425.toList then ((laws_toLayout.f k a0_0 l0_1).bind fun bt432=>((laws_eqLayout.f k bt426.1 bt426.2 bt432.1 bt432.2).bind fun t436=>(if t436=true then (some true) else (some false)))) else (some false)))))))=some r:=H
 have A5:=Aside0.mk A50
 clear A50
 by_cases c6:t420<0
 ·rw [if_pos c6] at H
  have c6b0:decide (t420<0)=true:=decide_eq_true c6
  clear c6
  obtain rfl:=Option.some.inj H
  go_enter Tryd.func5,Tryd.ntmps5
  go_wp2_with (first|((with_reducible refine gate_dst (N:=2) rfl ?_);refine box_event ?hg (N:=2) ?hd (cs:=#[.int .i64 a0_0,.slice A0_1 l0_1.length c0_1]) (t:=24) ?hr ?_;(case hd=>rfl);(case hg=>rfl);(case hr=>first|(go_simp;done)|(go_simp;rfl));intro gb419 hg w7 hbox hb;have n0_:=Aside0.mk (below_step (by repeat (first|(with_reducible first|exact HB.out|apply below_alloc|apply pw_below_drewN|apply below_drew1)|exact HB.out)) hb);have n1_:=Aside0.mk (hbox);have n2_:=Aside0.mk ((by rw [hg];exact (below_size (by repeat (first|(with_reducible first|exact HB.out|apply below_alloc|apply pw_below_drewN|apply below_drew1)|exact HB.out))):w.heap.size≤gb419));have n3_:=Aside0.mk ((by rw [hg];exact (below_size (by repeat (first|(with_reducible first|exact HB.out|apply below_alloc|apply pw_below_drewN|apply below_drew1)|exact HB.out))):w.heap.size≤gb419));clear HB;have HB:=n0_;have BK419:=n1_;have GW419:=n2_;have GE419:=n3_;clear n0_ n1_ n2_ n3_;clear hb hbox hg;have hcz8_0:w7.cell? ⟨gb419,0,none⟩=some (.int .i64 a0_0):=(blk_cell BK419.out 0).trans rfl;have hcz8_1:w7.cell? ⟨gb419,1,none⟩=some (.slice A0_1 l0_1.length c0_1):=(blk_cell BK419.out 1).trans rfl;have hfz8_0:=blk_frozen BK419.out 0;have hfz8_1:=blk_frozen BK419.out 1)|((with_reducible refine gate_callee (f:=7) rfl ?_);refine goesL_ (some 14) rfl rfl Tryd.func7 (by kernel_rfl) rfl #[.agg #[.int .i64 a0_0,.slice A0_1 l0_1.length c0_1],.int .i64 1048576] rfl (by (try simp only [List.map_toArray,List.map_cons,List.map_nil]);first|done|rfl|(simp only [List.length_drop,List.length_take];rfl)) ?_;(with_reducible refine (laws_szLayout.calls a0_0 _ _ l0_1 1048576 t420 _ ?side1 ?side2 A5.out).mono ?_);(case side1=>repeat (first|exact (Kd.C_below HR0_1.out HB.out)|(with_reducible refine Kd.C_alloc ?_ _)|(with_reducible refine Kd.C_drewN ?_ _)|(with_reducible refine Kd.C_drew ?_)));(case side2=>exact HC0_1.out);rintro e w9 ⟨rfl,hb⟩;refine ⟨_,rfl,?_⟩;have n0_:=Aside0.mk (blk_below (g:=gb419) (o:=.cells #[.int .i64 a0_0,.slice A0_1 l0_1.length c0_1] 24 (0,0)) (by (with_reducible repeat (first|refine blk_drewN ?_ _|refine blk_drew ?_|refine blk_alloc ?_ _));exact BK419.out) hb);have n1_:=Aside0.mk (below_step (by repeat (first|(with_reducible first|exact HB.out|apply below_alloc|apply pw_below_drewN|apply below_drew1|refine below_set ?_ GE419.out)|exact HB.out)) hb);clear BK419;clear HB;have BK419:=n0_;have HB:=n1_;clear n0_ n1_;(try clear hb);(try clear hb2);(try clear hk);(try clear hi)))
  go_ret
  exact ⟨by first|rfl|(simp [errW_none,errW_some] <;> rfl)|(simp [*,errW_none,errW_some] <;> rfl),by repeat (first|(with_reducible first|exact HB.out|apply below_alloc|apply pw_below_drewN|apply below_drew1|refine below_set ?_ GE419.out)|exact HB.out)⟩
 rw [if_neg c6] at H
 have c6b0:decide (t420<0)=false:=decide_eq_false c6
 clear c6
 replace H:=Option.bind_eq_some_iff.mp H
 obtain ⟨⟨t421,t422⟩,A100,H⟩:=H
 replace H:((spec_Answer.f t421 t422 a1).bind fun t425=>((laws_toLayout.f k a0_0 l0_1).bind fun bt426=>((impl_Answer.f bt426.1 bt426.2 a1).bind fun t431=>(if t431.toList=t425.toList then ((laws_toLayout.f k a0_0 l0_1).bind fun bt432=>((laws_eqLayout.f k bt426.1 bt426.2 bt432.1 bt432.2).bind fun t436=>(if t436=true then (some true) else (some false)))) else (some false)))))=some r:=H
 have A10:=Aside0.mk A100
 clear A100
 replace H:=Option.bind_eq_some_iff.mp H
 obtain ⟨t425,A110,H⟩:=H
 replace H:((laws_toLayout.f k a0_0 l0_1).bind fun bt426=>((impl_Answer.f bt426.1 bt426.2 a1).bind fun t431=>(if t431.toList=t425.toList then ((laws_toLayout.f k a0_0 l0_1).bind fun bt432=>((laws_eqLayout.f k bt426.1 bt426.2 bt432.1 bt432.2).bind fun t436=>(if t436=true then (some true) else (some false)))) else (some false))))=some r:=H
 have A11:=Aside0.mk A110
 clear A110
 replace H:=Option.bind_eq_some_iff.mp H
 obtain ⟨⟨t426,t427⟩,A120,H⟩:=H
 replace H:((impl_Answer.f t426 t427 a1).bind fun t431=>(if t431.toList=t425.toList then ((laws_toLayout.f k a0_0 l0_1).bind fun bt432=>((laws_eqLayout.f k t426 t427 bt432.1 bt432.2).bind fun t436=>(if t436=true then (some true) else (some false)))) else (some false)))=some r:=H
 have A12:=Aside0.mk A120
 clear A120
 replace H:=Option.bind_eq_some_iff.mp H
 obtain ⟨t431,A130,H⟩:=H
 replace H:(if t431.toList=t425.toList then ((laws_toLayout.f k a0_0 l0_1).bind fun bt432=>((laws_eqLayout.f k t426 t427 bt432.1 bt432.2).bind fun t436=>(if t436=true then (some true) else (some false)))) else (some false))=some r:=H
 have A13:=Aside0.mk A130
 clear A130
 by_cases c14:t431.toList=t425.toList
 ·rw [if_pos c14] at H
  have c14b0:(t431.toList==t425.toList)=true:=beq_iff_eq.mpr c14
  have c14b1:(t431.toList != t425.toList)=false:=bne_eq_false_iff_eq.mpr c14
  clear c14
  replace H:=Option.bind_eq_some_iff.mp H
  obtain ⟨⟨t432,t433⟩,A150,H⟩:=H
  replace H:((laws_eqLayout.f k t426 t427 t432 t433).bind fun t436=>(if t436=true then (some true) else (some false)))=some r:=H
  have A15:=Aside0.mk A150
  clear A150
  replace H:=Option.bind_eq_some_iff.mp H
  obtain ⟨t436,A160,H⟩:=H
  replace H:(if t436=true then (some true) else (some false))=some r:=H
  have A16:=Aside0.mk A160
  clear A160
  by_cases c17:t436=true
  ·subst c17
   have H1:(some true)=some r:=by rw [if_pos rfl] at H;exact H
   clear H
   have H:=H1
   clear H1
   obtain rfl:=Option.some.inj H
   go_enter Tryd.func5,Tryd.ntmps5
   try go_wp2_with (first|((with_reducible refine gate_dst (N:=2) rfl ?_);refine box_event ?hg (N:=2) ?hd (cs:=#[.int .i64 a0_0,.slice A0_1 l0_1.length c0_1]) (t:=24) ?hr ?_;(case hd=>rfl);(case hg=>rfl);(case hr=>first|(go_simp;done)|(go_simp;rfl));intro gb419 hg w18 hbox hb;have n0_:=Aside0.mk (below_step (by repeat (first|(with_reducible first|exact HB.out|apply below_alloc|apply pw_below_drewN|apply below_drew1)|exact HB.out)) hb);have n1_:=Aside0.mk (hbox);have n2_:=Aside0.mk ((by rw [hg];exact (below_size (by repeat (first|(with_reducible first|exact HB.out|apply below_alloc|apply pw_below_drewN|apply below_drew1)|exact HB.out))):w.heap.size≤gb419));have n3_:=Aside0.mk ((by rw [hg];exact (below_size (by repeat (first|(with_reducible first|exact HB.out|apply below_alloc|apply pw_below_drewN|apply below_drew1)|exact HB.out))):w.heap.size≤gb419));clear HB;have HB:=n0_;have BK419:=n1_;have GW419:=n2_;have GE419:=n3_;clear n0_ n1_ n2_ n3_;clear hb hbox hg;have hcz19_0:w18.cell? ⟨gb419,0,none⟩=some (.int .i64 a0_0):=(blk_cell BK419.out 0).trans rfl;have hcz19_1:w18.cell? ⟨gb419,1,none⟩=some (.slice A0_1 l0_1.length c0_1):=(blk_cell BK419.out 1).trans rfl;have hfz19_0:=blk_frozen BK419.out 0;have hfz19_1:=blk_frozen BK419.out 1)|((with_reducible refine gate_callee (f:=7) rfl ?_);refine goesL_ (some 14) rfl rfl Tryd.func7 (by kernel_rfl) rfl #[.agg #[.int .i64 a0_0,.slice A0_1 l0_1.length c0_1],.int .i64 1048576] rfl (by (try simp only [List.map_toArray,List.map_cons,List.map_nil]);first|done|rfl|(simp only [List.length_drop,List.length_take];rfl)) ?_;(with_reducible refine (laws_szLayout.calls a0_0 _ _ l0_1 1048576 t420 _ ?side1 ?side2 A5.out).mono ?_);(case side1=>repeat (first|exact (Kd.C_below HR0_1.out HB.out)|(with_reducible refine Kd.C_alloc ?_ _)|(with_reducible refine Kd.C_drewN ?_ _)|(with_reducible refine Kd.C_drew ?_)));(case side2=>exact HC0_1.out);rintro e w20 ⟨rfl,hb⟩;refine ⟨_,rfl,?_⟩;have n0_:=Aside0.mk (blk_below (g:=gb419) (o:=.cells #[.int .i64 a0_0,.slice A0_1 l0_1.length c0_1] 24 (0,0)) (by (with_reducible repeat (first|refine blk_drewN ?_ _|refine blk_drew ?_|refine blk_alloc ?_ _));exact BK419.out) hb);have n1_:=Aside0.mk (below_step (by repeat (first|(with_reducible first|exact HB.out|apply below_alloc|apply pw_below_drewN|apply below_drew1|refine below_set ?_ GE419.out)|exact HB.out)) hb);clear BK419;clear HB;have BK419:=n0_;have HB:=n1_;clear n0_ n1_;(try clear hb);(try clear hb2);(try clear hk);(try clear hi);have hcz21_0:w20.cell? ⟨gb419,0,none⟩=some (.int .i64 a0_0):=(blk_cell BK419.out 0).trans rfl;have hcz21_1:w20.cell? ⟨gb419,1,none⟩=some (.slice A0_1 l0_1.length c0_1):=(blk_cell BK419.out 1).trans rfl;have hfz21_0:=blk_frozen BK419.out 0;have hfz21_1:=blk_frozen BK419.out 1)|((with_reducible refine gate_callee (f:=10) rfl ?_);refine goesL_ (some 18) rfl rfl Tryd.func10 (by kernel_rfl) rfl #[.agg #[.int .i64 a0_0,.slice A0_1 l0_1.length c0_1]] rfl (by (try simp only [List.map_toArray,List.map_cons,List.map_nil]);first|done|rfl|(simp only [List.length_drop,List.length_take];rfl)) ?_;(with_reducible refine (laws_toLayout.calls k a0_0 _ _ l0_1 t421 t422 _ ?side1 ?side2 A10.out).mono ?_);(case side1=>repeat (first|exact (Kd.C_below HR0_1.out HB.out)|(with_reducible refine Kd.C_alloc ?_ _)|(with_reducible refine Kd.C_drewN ?_ _)|(with_reducible refine Kd.C_drew ?_)));(case side2=>exact HC0_1.out);rintro e w22 ⟨v423,rfl,ho0,hb⟩;refine ⟨_,rfl,?_⟩;have n0_:=Aside0.mk (Kd.R_lower ho0 (below_size (by repeat (first|(with_reducible first|exact HB.out|apply below_alloc|apply pw_below_drewN|apply below_drew1|refine below_set ?_ GE419.out)|exact HB.out))));have n1_:=Aside0.mk (blk_below (g:=gb419) (o:=.cells #[.int .i64 a0_0,.slice A0_1 l0_1.length c0_1] 24 (0,0)) (by (with_reducible repeat (first|refine blk_drewN ?_ _|refine blk_drew ?_|refine blk_alloc ?_ _));exact BK419.out) hb);have n2_:=Aside0.mk (below_step (by repeat (first|(with_reducible first|exact HB.out|apply below_alloc|apply pw_below_drewN|apply below_drew1|refine below_set ?_ GE419.out)|exact HB.out)) hb);clear BK419;clear HB;have HO424:=n0_;have BK419:=n1_;have HB:=n2_;clear n0_ n1_ n2_;(try clear hb);(try clear hb2);(try clear hk);(try clear hi);(try clear ho0);obtain ⟨Ao23,co23,eo23⟩:=Kd.R_slice HO424.out;subst eo23)|((with_reducible refine gate_callee (f:=21) rfl ?_);refine goesL_ (some 20) rfl rfl Tryd.func21 (by kernel_rfl) rfl #[.agg #[.int .i64 t421,.slice Ao23 t422.length co23],.string a1] rfl (by (try simp only [List.map_toArray,List.map_cons,List.map_nil]);first|done|rfl|(simp only [List.length_drop,List.length_take];rfl)) ?_;(with_reducible refine (spec_Answer.calls t421 _ _ t422 a1 t425 _ ?side1 ?side2 A11.out).mono ?_);(case side1=>repeat (first|exact (Kd.R_reads' HO424.out).2.2|(with_reducible refine Kd.C_alloc ?_ _)|(with_reducible refine Kd.C_drewN ?_ _)|(with_reducible refine Kd.C_drew ?_)));(case side2=>exact (Kd.R_reads' HO424.out).2.1);rintro e w24 ⟨rfl,hb⟩;refine ⟨_,rfl,?_⟩;have n0_:=Aside0.mk (Kd.R_below (by (with_reducible repeat (first|apply Kd.R_alloc|apply Kd.R_drewN|apply Kd.R_drew));exact HO424.out) hb);have n1_:=Aside0.mk (blk_below (g:=gb419) (o:=.cells #[.int .i64 a0_0,.slice A0_1 l0_1.length c0_1] 24 (0,0)) (by (with_reducible repeat (first|refine blk_drewN ?_ _|refine blk_drew ?_|refine blk_alloc ?_ _));exact BK419.out) hb);have n2_:=Aside0.mk (below_step (by repeat (first|(with_reducible first|exact HB.out|apply below_alloc|apply pw_below_drewN|apply below_drew1|refine below_set ?_ GE419.out)|exact HB.out)) hb);clear HO424;clear BK419;clear HB;have HO424:=n0_;have BK419:=n1_;have HB:=n2_;clear n0_ n1_ n2_;(try clear hb);(try clear hb2);(try clear hk);(try clear hi);have hcz25_0:w24.cell? ⟨gb419,0,none⟩=some (.int .i64 a0_0):=(blk_cell BK419.out 0).trans rfl;have hcz25_1:w24.cell? ⟨gb419,1,none⟩=some (.slice A0_1 l0_1.length c0_1):=(blk_cell BK419.out 1).trans rfl;have hfz25_0:=blk_frozen BK419.out 0;have hfz25_1:=blk_frozen BK419.out 1)|((with_reducible refine gate_callee (f:=10) rfl ?_);refine goesL_ (some 22) rfl rfl Tryd.func10 (by kernel_rfl) rfl #[.agg #[.int .i64 a0_0,.slice A0_1 l0_1.length c0_1]] rfl (by (try simp only [List.map_toArray,List.map_cons,List.map_nil]);first|done|rfl|(simp only [List.length_drop,List.length_take];rfl)) ?_;(with_reducible refine (laws_toLayout.calls k a0_0 _ _ l0_1 t426 t427 _ ?side1 ?side2 A12.out).mono ?_);(case side1=>repeat (first|exact (Kd.C_below HR0_1.out HB.out)|(with_reducible refine Kd.C_alloc ?_ _)|(with_reducible refine Kd.C_drewN ?_ _)|(with_reducible refine Kd.C_drew ?_)));(case side2=>exact HC0_1.out);rintro e w26 ⟨v428,rfl,ho0,hb⟩;refine ⟨_,rfl,?_⟩;have n0_:=Aside0.mk (Kd.R_elder' (by (with_reducible repeat (first|apply Kd.R_alloc|apply Kd.R_drewN|apply Kd.R_drew));exact HO424.out) (Kd.R_base ho0) hb);have n1_:=Aside0.mk (Kd.R_lower (Kd.R_new' ho0 (Kd.R_lt (by (with_reducible repeat (first|apply Kd.R_alloc|apply Kd.R_drewN|apply Kd.R_drew));exact HO424.out))) (below_size (by repeat (first|(with_reducible first|exact HB.out|apply below_alloc|apply pw_below_drewN|apply below_drew1|refine below_set ?_ GE419.out)|exact HB.out))));have n2_:=Aside0.mk (blk_below (g:=gb419) (o:=.cells #[.int .i64 a0_0,.slice A0_1 l0_1.length c0_1] 24 (0,0)) (by (with_reducible repeat (first|refine blk_drewN ?_ _|refine blk_drew ?_|refine blk_alloc ?_ _));exact BK419.out) hb);have n3_:=Aside0.mk (below_step (by repeat (first|(with_reducible first|exact HB.out|apply below_alloc|apply pw_below_drewN|apply below_drew1|refine below_set ?_ GE419.out)|exact HB.out)) hb);clear HO424;clear BK419;clear HB;have HO424:=n0_;have HO429:=n1_;have BK419:=n2_;have HB:=n3_;clear n0_ n1_ n2_ n3_;(try clear hb);(try clear hb2);(try clear hk);(try clear hi);(try clear ho0))|((with_reducible refine gate_dst (N:=7) rfl ?_);refine box_event ?hg (N:=7) ?hd (cs:=#[.int .i64 0,.slice none 0 0]) (t:=31) ?hr ?_;(case hd=>rfl);(case hg=>rfl);(case hr=>first|(go_simp;done)|(go_simp;rfl));intro gb430 hg w27 hbox hb;have n0_:=Aside0.mk (Kd.R_below (by (with_reducible repeat (first|apply Kd.R_alloc|apply Kd.R_drewN|apply Kd.R_drew));exact HO424.out) hb);have n1_:=Aside0.mk (Kd.R_below (by (with_reducible repeat (first|apply Kd.R_alloc|apply Kd.R_drewN|apply Kd.R_drew));exact HO429.out) hb);have n2_:=Aside0.mk (blk_below (g:=gb419) (o:=.cells #[.int .i64 a0_0,.slice A0_1 l0_1.length c0_1] 24 (0,0)) (by (with_reducible repeat (first|refine blk_drewN ?_ _|refine blk_drew ?_|refine blk_alloc ?_ _));exact BK419.out) hb);have n3_:=Aside0.mk (below_step (by repeat (first|(with_reducible first|exact HB.out|apply below_alloc|apply pw_below_drewN|apply below_drew1|refine below_set ?_ GE419.out)|exact HB.out)) hb);have n4_:=Aside0.mk (hbox);have n5_:=Aside0.mk ((by rw [hg];exact (below_size (by repeat (first|(with_reducible first|exact HB.out|apply below_alloc|apply pw_below_drewN|apply below_drew1|refine below_set ?_ GE419.out)|exact HB.out))):w.heap.size≤gb430));have n6_:=Aside0.mk ((by rw [hg];exact (below_size (by repeat (first|(with_reducible first|exact HB.out|apply below_alloc|apply pw_below_drewN|apply below_drew1|refine below_set ?_ GE419.out)|exact HB.out))):w.heap.size≤gb430));have n7_:=Aside0.mk ((by rw [hg];exact Nat.ne_of_lt (blk_lt (g:=gb419) (o:=.cells #[.int .i64 a0_0,.slice A0_1 l0_1.length c0_1] 24 (0,0)) (by (with_reducible repeat (first|refine blk_drewN ?_ _|refine blk_drew ?_|refine blk_alloc ?_ _));exact BK419.out)):gb419 ≠ gb430));have n8_:=Aside0.mk ((by rw [hg];exact Nat.ne_of_gt (blk_lt (g:=gb419) (o:=.cells #[.int .i64 a0_0,.slice A0_1 l0_1.length c0_1] 24 (0,0)) (by (with_reducible repeat (first|refine blk_drewN ?_ _|refine blk_drew ?_|refine blk_alloc ?_ _));exact BK419.out)):gb430 ≠ gb419));clear HO424;clear HO429;clear BK419;clear HB;have HO424:=n0_;have HO429:=n1_;have BK419:=n2_;have HB:=n3_;have BK430:=n4_;have GW430:=n5_;have GE430:=n6_;have NB419_430:=n7_;have NB430_419:=n8_;clear n0_ n1_ n2_ n3_ n4_ n5_ n6_ n7_ n8_;clear hb hbox hg;have hnb28:=NB430_419.out;have hnc28:=NB419_430.out;have hcz29_0:w27.cell? ⟨gb430,0,none⟩=some (.int .i64 0):=(blk_cell BK430.out 0).trans rfl;have hcz29_1:w27.cell? ⟨gb430,1,none⟩=some (.slice none 0 0):=(blk_cell BK430.out 1).trans rfl;have hfz29_0:=blk_frozen BK430.out 0;have hfz29_1:=blk_frozen BK430.out 1;obtain ⟨Ao30,co30,eo30⟩:=Kd.R_slice HO429.out;subst eo30)|((with_reducible refine gate_callee (f:=22) rfl ?_);refine goesL_ (some 25) rfl rfl Tryd.func22 (by kernel_rfl) rfl #[.agg #[.int .i64 t426,.slice Ao30 t427.length co30],.string a1] rfl (by (try simp only [List.map_toArray,List.map_cons,List.map_nil]);first|done|rfl|(simp only [List.length_drop,List.length_take];rfl)) ?_;(with_reducible refine (impl_Answer.calls t426 _ _ t427 a1 t431 _ ?side1 ?side2 A13.out (HT_.out.nx (by repeat (first|(with_reducible refine below_set ?_ GE430.out)|(with_reducible first|exact HB.out|apply below_alloc|apply pw_below_drewN|apply below_drew1)|exact HB.out)))).mono ?_);(case side1=>refine (Kd.R_reads' (e:=98) (base:=w.heap.size) (ok:=fun k_=>(True∧some k_ ≠ (.slice Ao23 t422.length co23:Value).ownBlock)) (n:=t427.length) (c:=co30) ?_).2.2;exact (by (with_reducible repeat (first|apply Kd.R_alloc|apply Kd.R_drewN|apply Kd.R_drew));exact (Kd.R_mono (Kd.R_far (p:=⟨gb430,1,none⟩) (Kd.R_far (p:=⟨gb430,0,none⟩) (Kd.R_types HO429.out BK430.out (by decide)) (fun _ hk=>hk.2) (.int .i64 t426)) (fun _ hk=>hk.2) (.slice Ao30 t427.length co30)) (fun _ h_=>h_.1))));(case side2=>exact (Kd.R_reads' HO429.out).2.1);rintro e w31 ⟨rfl,hb⟩;refine ⟨_,rfl,?_⟩;have n0_:=Aside0.mk (Kd.R_below (by (with_reducible repeat (first|apply Kd.R_alloc|apply Kd.R_drewN|apply Kd.R_drew));exact (Kd.R_mono (Kd.R_far (p:=⟨gb430,1,none⟩) (Kd.R_far (p:=⟨gb430,0,none⟩) (Kd.R_types HO424.out BK430.out (by decide)) (fun _ hk=>hk.2) (.int .i64 t426)) (fun _ hk=>hk.2) (.slice Ao30 t427.length co30)) (fun _ h_=>h_.1))) hb);have n1_:=Aside0.mk (Kd.R_below (by (with_reducible repeat (first|apply Kd.R_alloc|apply Kd.R_drewN|apply Kd.R_drew));exact (Kd.R_mono (Kd.R_far (p:=⟨gb430,1,none⟩) (Kd.R_far (p:=⟨gb430,0,none⟩) (Kd.R_types HO429.out BK430.out (by decide)) (fun _ hk=>hk.2) (.int .i64 t426)) (fun _ hk=>hk.2) (.slice Ao30 t427.length co30)) (fun _ h_=>h_.1))) hb);have n2_:=Aside0.mk (blk_below (g:=gb419) (o:=.cells #[.int .i64 a0_0,.slice A0_1 l0_1.length c0_1] 24 (0,0)) (by (with_reducible repeat (first|refine blk_drewN ?_ _|refine blk_drew ?_|refine blk_alloc ?_ _));refine blk_far ?_ NB419_430.out _;(with_reducible repeat (first|refine blk_drewN ?_ _|refine blk_drew ?_|refine blk_alloc ?_ _));refine blk_far ?_ NB419_430.out _;(with_reducible repeat (first|refine blk_drewN ?_ _|refine blk_drew ?_|refine blk_alloc ?_ _));exact BK419.out) hb);have n3_:=Aside0.mk (blk_below (g:=gb430) (o:=.cells #[.int .i64 t426,.slice Ao30 t427.length co30] 31 (0,0)) (by (with_reducible repeat (first|refine blk_drewN ?_ _|refine blk_drew ?_|refine blk_alloc ?_ _));refine blk_put (cs:=#[.int .i64 t426,.slice none 0 0]) ?_ 1 _ rfl;(with_reducible repeat (first|refine blk_drewN ?_ _|refine blk_drew ?_|refine blk_alloc ?_ _));refine blk_put (cs:=#[.int .i64 0,.slice none 0 0]) ?_ 0 _ rfl;(with_reducible repeat (first|refine blk_drewN ?_ _|refine blk_drew ?_|refine blk_alloc ?_ _));exact BK430.out) hb);have n4_:=Aside0.mk (below_step (by repeat (first|(with_reducible first|exact HB.out|apply below_alloc|apply pw_below_drewN|apply below_drew1|refine below_set ?_ GE419.out|refine below_set ?_ GE430.out)|exact HB.out)) hb);clear HO424;clear HO429;clear BK419;clear BK430;clear HB;have HO424:=n0_;have HO429:=n1_;have BK419:=n2_;have BK430:=n3_;have HB:=n4_;clear n0_ n1_ n2_ n3_ n4_;(try clear hb);(try clear hb2);(try clear hk);(try clear hi)))
   have n0_:=Aside0.mk (Kd.R_drew HO424.out)
   have n1_:=Aside0.mk (Kd.R_drew HO429.out)
   have n2_:=Aside0.mk (blk_drew BK419.out)
   have n3_:=Aside0.mk (blk_drew BK430.out)
   have n4_:=Aside0.mk (below_drew1 HB.out)
   clear HO424
   clear HO429
   clear BK419
   clear BK430
   clear HB
   have HO424:=n0_
   have HO429:=n1_
   have BK419:=n2_
   have BK430:=n3_
   have HB:=n4_
   clear n0_ n1_ n2_ n3_ n4_
   refine start_ (n:=5) (S:=fun w'=>w'.cell? ⟨gb430,0,none⟩=some (.int .i64 t426)∧w'.cell? ⟨gb430,1,none⟩=some (.slice Ao30 t427.length co30)∧w'.cell? ⟨gb419,0,none⟩=some (.int .i64 a0_0)∧w'.cell? ⟨gb419,1,none⟩=some (.slice A0_1 l0_1.length c0_1)) (ds:=[]) #[false,false,false,false,false] (by kernel_rfl) rfl rfl ⟨(blk_cell BK430.out 0).trans rfl,(blk_cell BK430.out 1).trans rfl,(blk_cell BK419.out 0).trans rfl,(blk_cell BK419.out 1).trans rfl⟩ (fun hHeld=>?_)
   generalize w31.drew=w32 at HO424 HO429 BK419 BK430 HB hHeld ⊢
   refine take_ (i:=0) (N:=some 29) (v:=?_) (a':=?_) #[true,false,false,false,false] rfl rfl (by kernel_rfl) (fun _ _ _ h=>h) (Or.inl ⟨by rfl,?_⟩) hHeld ?_ ?_
   rotate_left
   ·rintro w' ⟨s0,s1,s2,s3⟩
    go_simp
    with_reducible rfl
   rotate_left
   ·simp only [Act.put,List.setIfInBounds_toArray,List.set_cons_zero,List.set_cons_succ,i64_w,i32_w]
    rfl
   refine take_ (i:=1) (N:=some 30) (v:=?_) (a':=?_) #[true,true,false,false,false] rfl rfl (by kernel_rfl) (fun _ _ _ h=>h) (Or.inl ⟨by rfl,?_⟩) hHeld ?_ ?_
   rotate_left
   ·rintro w' ⟨s0,s1,s2,s3⟩
    go_simp
    with_reducible rfl
   rotate_left
   ·simp only [Act.put,List.setIfInBounds_toArray,List.set_cons_zero,List.set_cons_succ,i64_w,i32_w]
    rfl
   refine one_ (i:=2) (N:=some 31) #[true,true,true,false,false] rfl rfl (by kernel_rfl) (by decide) (fun K hK=>?_)
   refine goes_ Tryd.func10 (by kernel_rfl) rfl #[.agg #[.int .i64 a0_0,.slice A0_1 l0_1.length c0_1]] (by rfl) rfl rfl (by (try simp only [List.map_toArray,List.map_cons,List.map_nil]);first|done|rfl|(simp only [List.length_drop,List.length_take];rfl)) ?_
   with_reducible refine (laws_toLayout.calls k a0_0 _ _ l0_1 t432 t433 _ ?side1 ?side2 A15.out).mono ?_
   (case side1=>repeat (first|exact (Kd.C_below HR0_1.out HB.out)|(with_reducible refine Kd.C_alloc ?_ _)|(with_reducible refine Kd.C_drewN ?_ _)|(with_reducible refine Kd.C_drew ?_)))
   (case side2=>exact HC0_1.out)
   rintro e w33 ⟨v434,rfl,ho0,hb⟩
   refine ⟨_,rfl,?_⟩
   have n0_:=Aside0.mk (Kd.R_elder' (by (with_reducible repeat (first|apply Kd.R_alloc|apply Kd.R_drewN|apply Kd.R_drew));exact HO424.out) (Kd.R_base ho0) hb)
   have n1_:=Aside0.mk (Kd.R_elder' (by (with_reducible repeat (first|apply Kd.R_alloc|apply Kd.R_drewN|apply Kd.R_drew));exact HO429.out) (Kd.R_base ho0) hb)
   have n2_:=Aside0.mk (Kd.R_lower (Kd.R_new' (Kd.R_new' ho0 (Kd.R_lt (by (with_reducible repeat (first|apply Kd.R_alloc|apply Kd.R_drewN|apply Kd.R_drew));exact HO424.out))) (Kd.R_lt (by (with_reducible repeat (first|apply Kd.R_alloc|apply Kd.R_drewN|apply Kd.R_drew));exact HO429.out))) (below_size (by repeat (first|(with_reducible first|exact HB.out|apply below_alloc|apply pw_below_drewN|apply below_drew1|refine below_set ?_ GE419.out|refine below_set ?_ GE430.out)|exact HB.out))))
   have n3_:=Aside0.mk (blk_below (g:=gb419) (o:=.cells #[.int .i64 a0_0,.slice A0_1 l0_1.length c0_1] 24 (0,0)) (by (with_reducible repeat (first|refine blk_drewN ?_ _|refine blk_drew ?_|refine blk_alloc ?_ _));exact BK419.out) hb)
   have n4_:=Aside0.mk (blk_below (g:=gb430) (o:=.cells #[.int .i64 t426,.slice Ao30 t427.length co30] 31 (0,0)) (by (with_reducible repeat (first|refine blk_drewN ?_ _|refine blk_drew ?_|refine blk_alloc ?_ _));exact BK430.out) hb)
   have n5_:=Aside0.mk (below_step (by repeat (first|(with_reducible first|exact HB.out|apply below_alloc|apply pw_below_drewN|apply below_drew1|refine below_set ?_ GE419.out|refine below_set ?_ GE430.out)|exact HB.out)) hb)
   clear HO424
   clear HO429
   clear BK419
   clear BK430
   clear HB
   have HO424:=n0_
   have HO429:=n1_
   have HO435:=n2_
   have BK419:=n3_
   have BK430:=n4_
   have HB:=n5_
   clear n0_ n1_ n2_ n3_ n4_ n5_
   (try clear hb)
   (try clear hb2)
   (try clear hk)
   (try clear hi)
   (try clear ho0)
   obtain ⟨Ao34,co34,eo34⟩:=Kd.R_slice HO435.out
   (first|subst eo34|(injection eo34 with f1_ f2_ f3_;have f4_:=f1_.symm;have f5_:=f3_.symm;clear f1_ f2_ f3_;subst f4_;subst f5_))
   refine hK.out _ _ ⟨(blk_cell BK430.out 0).trans rfl,(blk_cell BK430.out 1).trans rfl,(blk_cell BK419.out 0).trans rfl,(blk_cell BK419.out 1).trans rfl⟩ (fun hHeld=>?_)
   clear hK K
   refine norm_ (a':=?_) ?_ ?_
   rotate_left
   ·show Act.put _ (some 31) _=_
    simp only [Act.put,List.setIfInBounds_toArray,List.set_cons_zero,List.set_cons_succ,i64_w,i32_w]
    rfl
   refine one_ (i:=3) (N:=some 32) #[true,true,true,true,false] rfl rfl (by kernel_rfl) (by decide) (fun K hK=>?_)
   refine goes_ Tryd.func13 (by kernel_rfl) rfl #[.agg #[.int .i64 t426,.slice Ao30 t427.length co30],.agg #[.int .i64 t432,.slice Ao34 t433.length co34]] (by rfl) rfl rfl (by (try simp only [List.map_toArray,List.map_cons,List.map_nil]);first|done|rfl|(simp only [List.length_drop,List.length_take];rfl)) ?_
   with_reducible refine (laws_eqLayout.calls k t426 _ _ t427 t432 _ _ t433 true _ ?side1 ?side2 ?side3 ?side4 A16.out).mono ?_
   (case side1=>repeat (first|exact (Kd.R_reads' HO429.out).2.2|(with_reducible refine Kd.C_alloc ?_ _)|(with_reducible refine Kd.C_drewN ?_ _)|(with_reducible refine Kd.C_drew ?_)))
   (case side2=>exact (Kd.R_reads' HO429.out).2.1)
   (case side3=>repeat (first|exact (Kd.R_reads' HO435.out).2.2|(with_reducible refine Kd.C_alloc ?_ _)|(with_reducible refine Kd.C_drewN ?_ _)|(with_reducible refine Kd.C_drew ?_)))
   (case side4=>exact (Kd.R_reads' HO435.out).2.1)
   rintro e w35 ⟨rfl,hb⟩
   refine ⟨_,rfl,?_⟩
   have n0_:=Aside0.mk (Kd.R_below (by (with_reducible repeat (first|apply Kd.R_alloc|apply Kd.R_drewN|apply Kd.R_drew));exact HO424.out) hb)
   have n1_:=Aside0.mk (Kd.R_below (by (with_reducible repeat (first|apply Kd.R_alloc|apply Kd.R_drewN|apply Kd.R_drew));exact HO429.out) hb)
   have n2_:=Aside0.mk (Kd.R_below (by (with_reducible repeat (first|apply Kd.R_alloc|apply Kd.R_drewN|apply Kd.R_drew));exact HO435.out) hb)
   have n3_:=Aside0.mk (blk_below (g:=gb419) (o:=.cells #[.int .i64 a0_0,.slice A0_1 l0_1.length c0_1] 24 (0,0)) (by (with_reducible repeat (first|refine blk_drewN ?_ _|refine blk_drew ?_|refine blk_alloc ?_ _));exact BK419.out) hb)
   have n4_:=Aside0.mk (blk_below (g:=gb430) (o:=.cells #[.int .i64 t426,.slice Ao30 t427.length co30] 31 (0,0)) (by (with_reducible repeat (first|refine blk_drewN ?_ _|refine blk_drew ?_|refine blk_alloc ?_ _));exact BK430.out) hb)
   have n5_:=Aside0.mk (below_step (by repeat (first|(with_reducible first|exact HB.out|apply below_alloc|apply pw_below_drewN|apply below_drew1|refine below_set ?_ GE419.out|refine below_set ?_ GE430.out)|exact HB.out)) hb)
   clear HO424
   clear HO429
   clear HO435
   clear BK419
   clear BK430
   clear HB
   have HO424:=n0_
   have HO429:=n1_
   have HO435:=n2_
   have BK419:=n3_
   have BK430:=n4_
   have HB:=n5_
   clear n0_ n1_ n2_ n3_ n4_ n5_
   (try clear hb)
   (try clear hb2)
   (try clear hk)
   (try clear hi)
   refine hK.out _ _ ⟨(blk_cell BK430.out 0).trans rfl,(blk_cell BK430.out 1).trans rfl,(blk_cell BK419.out 0).trans rfl,(blk_cell BK419.out 1).trans rfl⟩ (fun hHeld=>?_)
   clear hK K
   refine norm_ (a':=?_) ?_ ?_
   rotate_left
   ·show Act.put _ (some 32) _=_
    simp only [Act.put,List.setIfInBounds_toArray,List.set_cons_zero,List.set_cons_succ,i64_w,i32_w]
    rfl
   refine pure_ (i:=4) (N:=some 33) (v:=?_) (a':=?_) #[true,true,true,true,true] rfl rfl (by kernel_rfl) (fun _ _ _ h=>h) (Or.inl ⟨by rfl,?_⟩) ?_ ?_
   rotate_left
   ·intro w'
    go_simp
    with_reducible rfl
   rotate_left
   ·simp only [Act.put,List.setIfInBounds_toArray,List.set_cons_zero,List.set_cons_succ,i64_w,i32_w]
    rfl
   refine done_ (by kernel_rfl) ?_
   try go_wp2
   go_ret
   exact ⟨by first|rfl|(simp [errW_none,errW_some] <;> rfl)|(simp [*,errW_none,errW_some] <;> rfl),by repeat (first|(with_reducible first|exact HB.out|apply below_alloc|apply pw_below_drewN|apply below_drew1|refine below_set ?_ GE419.out|refine below_set ?_ GE430.out)|exact HB.out)⟩
  replace c17:=Bool.eq_false_iff.mpr c17
  subst c17
  have H1:(some false)=some r:=by rw [if_neg (show ¬ (false=true) by decide)] at H;exact H
  clear H
  have H:=H1
  clear H1
  rw [HR_.out] at H
  cases H
 rw [if_neg c14] at H
 have c14b0:(t431.toList==t425.toList)=false:=beq_eq_false_iff_ne.mpr c14
 have c14b1:(t431.toList != t425.toList)=true:=bne_iff_ne.mpr c14
 rw [HR_.out] at H
 cases H
end Go.Proofs.YtpdnabhpkdchjaaDoor.P
namespace Go.Proofs.YtpdnabhpkdchjaaDoor.P
open Go Go.RowKit Go.Proofs.YtpdnabhpkdchjaaDoorW.PrintWords Go.Proofs.YtpdnabhpkdchjaaDoorW.PrintLast Go.Proofs.YtpdnabhpkdchjaaDoorW.PrintMore
set_option linter.unusedVariables false
set_option linter.unusedSimpArgs false
theorem ans_law_ev (n:Int) (l:List S100) (tx:ByteArray) (hl:l.length≤9223372036854775807):Ev (fun k=>laws_FnExactAnswer.f k n l tx) true:=by
 unfold laws_FnExactAnswer.f
 by_cases h0:(tx.size:Int) > 1048576
 ·exact Ev.ite_pos h0 (Ev.now _)
 refine Ev.ite_neg h0 ?_
 refine Ev.call (szLayout_eq n l 1048576 (by omega) (by omega) hl) ?_
 by_cases h:(1048576:Int)<l.length
 ·exact Ev.ite_pos (by rw [if_pos h];omega) (Ev.now _)
 refine Ev.ite_neg (by rw [if_neg h];omega) ?_
 have hl2:l.length≤1048576:=by omega
 have hm:(l.map cvC).length=l.length:=by simp
 refine Ev.bind (toLayout_ev n l hl2) ?_
 refine Ev.call (a:=bs (ansE n (l.map cvC) tx.data.toList)) rfl ?_
 refine Ev.bind (toLayout_ev n l hl2) ?_
 refine Ev.call (a:=bs (ansE n (l.map cvC) tx.data.toList)) rfl ?_
 refine Ev.ite_pos rfl ?_
 refine Ev.bind (toLayout_ev n l hl2) ?_
 exact Ev.bind (eqLayout_ev n (l.map cvC) (by omega)) (Ev.ite_pos rfl (Ev.now _))
theorem ans_walk {T:Addr} {tc:Nat} (n:Int) (A:Option Addr) (c:Nat) (l:List S100) (tx:ByteArray) (w:World) (hT:Tabs T tc w) (hr:Kd.C k100 w A l.length l) (hc:l.length≤c) :
  Calls Tryd.prog 5 #[.agg #[.int .i64 n,.slice A l.length c],.string tx] w fun e w'=>e=.returned (.bool true)∧Below w.heap.size w w':=by
 obtain ⟨k,h⟩:=(ans_law_ev n l tx hr.2.1).rounds
 exact laws_FnExactAnswer.calls k n A c l tx true w ⟨hT⟩ hr hc ⟨rfl⟩ h
end Go.Proofs.YtpdnabhpkdchjaaDoor.P
namespace Go.Proofs.YtpdnabhpkdchjaaDoor.P
open Go Go.RowKit Go.ChangeShapes Go.WideShapes Go.ChangeAt Go.WideElems
set_option linter.unusedVariables false
def laidL : List (String × DataW Unit) := [("math/bits.deBruijn32tab", Rows.laid_math_bits_deBruijn32tab), ("math/bits.deBruijn64tab", Rows.laid_math_bits_deBruijn64tab), ("internal/strconv.uint64pow10", Rows.laid_internal_strconv_uint64pow10), ("loop.example/treadle/impl.names", Rows.laid_loop_example_treadle_impl_names)]
theorem gNames : Tryd.prog.globalNamed "loop.example/treadle/impl.names" = some 0 := by kernel_rfl
theorem gPow : Tryd.prog.globalNamed "internal/strconv.uint64pow10" = some 2 := by kernel_rfl
theorem tNames : (Tryd.prog.globals[0]?).map (·.type) = some 77 := by kernel_rfl
theorem tPow : (Tryd.prog.globals[2]?).map (·.type) = some 132 := by kernel_rfl
theorem pow_data {H : Type} : (Rows.laid_internal_strconv_uint64pow10 : DataW H) = Lib.tabData .u64 Lib.pow10Tab := by kernel_rfl
theorem tabs_of_laid {W : World} (h : laidMetH Tryd.prog laidL W) : ∃ T tc, Tabs T tc W := by
  rw [MakeChecks.laidMetH_plain _ _ _ (by kernel_rfl)] at h
  have h2 := laidMet.tail (laidMet.tail h)
  have hT : Lib.TabIs Tryd.prog W "internal/strconv.uint64pow10" .u64 Lib.pow10Tab := by
    rw [pow_data] at h2
    exact Lib.tabIs_of_head gPow tPow Tryd.underlying132 Tryd.underlying90 (by kernel_rfl) (by kernel_rfl) h2
  obtain ⟨ps, ⟨g, t, cs, fuel, p, q, hg, ht, hv, hd, _, _⟩, _, hrows⟩ := laidMet.tail h2
  obtain rfl := Option.some.inj (gNames.symm.trans hg)
  obtain rfl := Option.some.inj (tNames.symm.trans ht)
  obtain ⟨a, cap, hcs, hcap, hel⟩ := open_row Tryd.underlying77 (by kernel_rfl) hd
  have hn := World.var?_cell gNames hv 0
  rw [Array.eq_one_of_toList hcs] at hn
  refine ⟨a, cap, by simpa using hn, fun i hi => ?_, hT⟩
  have key : ∀ l : List UInt8, ([DataW.lit (H := Unit) (.string []), .lit (.string [112, 97, 115, 115]), .lit (.string [103, 104, 111, 115, 116]), .lit (.string [100, 101, 97, 100]), .lit (.string [97, 108, 105, 118, 101]), .lit (.string [114, 101, 115, 101, 116])])[i]? = some (.lit (.string l)) → W.cell? (a.add i) = some (.string ⟨l.toArray⟩) := by
    intro l hl
    obtain ⟨v, n, q, hc, hr⟩ := hel i _ hl
    obtain ⟨s, hs, hx, _⟩ := DataW.trod_string Tryd.underlying9 hr
    obtain rfl : v = .string s := by simpa using hs
    rw [hc]
    have e : l = s.data.toList := by simpa using congrArg Prod.fst hx
    rw [e]
  apply key
  match i, hi with
  | 0, _ => rfl
  | 1, _ => rfl
  | 2, _ => rfl
  | 3, _ => rfl
  | 4, _ => rfl
  | 5, _ => rfl
theorem names_back {H : Type} {enc : TypeId × Value → H} {W W' : World} (hb : Below W.heap.size W W') {gs : List (DataW H)} {ps : List MemPlace} (h : DataW.TrodVars enc Tryd.prog W (fun _ => true) ["loop.example/treadle/impl.names"] gs ps) :
    ∃ pv, DataW.TrodVars enc Tryd.prog W' (fun b => decide (b < W.heap.size)) ["loop.example/treadle/impl.names"] gs pv := by
  have hlt := h.lt
  obtain ⟨g, t, cs, fuel, d, p, rfl, h1, h2, h3, h4, e⟩ := trodVars_one h
  obtain rfl := Option.some.inj (gNames.symm.trans h1)
  obtain rfl := Option.some.inj (tNames.symm.trans h2)
  have hp : ∀ x ∈ p, x.block < W.heap.size := fun x hx => hlt x (by rw [e]; exact List.mem_append_right _ hx)
  have h3' : W'.var? Tryd.prog "loop.example/treadle/impl.names" = some cs := by
    unfold World.var? at h3 ⊢
    rw [h1] at h3 ⊢
    simp only [Option.bind_some] at h3 ⊢
    have hg : 0 < W.heap.size := by
      cases hh : W.heap[0]? with
      | none => rw [hh] at h3; cases h3
      | some o => exact (Array.getElem?_eq_some_iff.1 hh).1
    rw [hb.block 0 hg]
    exact h3
  exact ⟨_, trodVars_mk1 h1 h2 h3' (DataW.trod_stays (kids_book Facts.laidOut (by kernel_rfl)) (book_sized (by kernel_rfl)) (fun h => by cases h) ⟨of_decide_eq_true (by kernel_rfl), book_self _⟩ h4 (fun x hx => hb.same (hp x hx)) (fun x hx => by simpa using hp x hx))⟩
theorem door_met (os : Os) (args : Array Value) : laidMetH Tryd.prog laidL ((World.doorLaid Tryd.prog 4000 os).forCall (fun _ _ => 0) ⟨#[], args, []⟩).memory :=
  laidMetH_of_parts3 (fuel := 8) (laidMet_of_run' 8 (by kernel_rfl) (by kernel_rfl)) (by kernel_rfl) (by kernel_rfl)
end Go.Proofs.YtpdnabhpkdchjaaDoor.P
namespace Go.Proofs.YtpdnabhpkdchjaaDoor.fnExactAnswer
open Go.ChangeShapes Go.WideShapes Go.ChangeAt Go.RowKit Go.Proofs.YtpdnabhpkdchjaaDoor.Open Go.Proofs.YtpdnabhpkdchjaaDoor.P
set_option linter.unusedVariables false
set_option maxRecDepth 100000 in
theorem lifted (os : Os) (started : os.Started) (H : Type) (enc : TypeId × Value → H) :
    ReturnsInHanded {} Tryd.checked os 5 .any (fun w args => (Rows.fnExactAnswerSpec.pre enc Tryd.prog Tryd.f5 [] false w args ∧ laidMetH Tryd.prog laidL w) ∧ sizedMet enc Tryd.prog Tryd.f5 (OpenSpec.ofChange Rows.fnExactAnswerSpec) false w args) (Rows.fnExactAnswerSpec.post enc Tryd.prog Tryd.f5 false true false false) := by
  refine returnsInHanded_of_change_and (C := Tryd.checked) (X := fun w _ => laidMetH Tryd.prog laidL w) (fun _ _ _ hh h => h.of_heap hh) Facts.own started (by kernel_rfl) Tryd.func5
    (ChangeSpec.witness_shaped (enc := enc) (C := Tryd.checked) (os := os) (X := fun w _ => laidMetH Tryd.prog laidL w) false (World.doorLaid Tryd.prog 4000 os) #[.agg #[.int .i64 0, .slice none 0 0], .string ByteArray.empty] 8 rfl (World.shaped_of_RefB (by kernel_rfl) (by kernel_rfl)) (by kernel_rfl) (by kernel_rfl) (by kernel_rfl) (door_met os _)) ?_
  intro W base args ds gs before hval0 hW hcnd hsz0 hL _
  have hval : ∀ (j : Nat) t v, Tryd.f5.params[j]? = some t → args[j]? = some v → Value.okWide Tryd.prog W .any base t v := hval0
  have hW' := hW
  obtain ⟨p, q, hA0, hV, rfl, hfz, hnd⟩ := hW
  obtain ⟨g, gt, gcs, gf, dg, gp, rfl, hg1, hg2, hg3, hg4, hg5⟩ := trodVars_one hV
  have hA : DataW.TrodAll enc Tryd.prog W 0 (fun _ => true) true Tryd.f5.params.toList args.toList ds p := hA0
  rw [Tryd.params5] at hA hval
  obtain ⟨v0, vs0, d0, ds0, p0, q0, hargs, rfl, rfl, h0, r0⟩ := trodAll_cons hA
  obtain ⟨v1, vs1, d1, ds1, p1, q1, rfl, rfl, rfl, h1, r1⟩ := trodAll_cons r0
  obtain ⟨rfl, rfl, rfl⟩ := trodAll_nil r1
  obtain rfl : args = #[v0, v1] := by cases args; simp_all
  obtain ⟨T, tc, hT⟩ := tabs_of_laid hL
  have k0 := h0
  have lt0 : ∀ x ∈ p0, x.block < W.heap.size := by obtain ⟨m, hm⟩ := k0; exact DataW.trod_lt m _ _ _ hm
  obtain ⟨n0, A0, c0, l0, rfl, hr0, hc0⟩ := arg_layout (hval 0 24 v0 rfl rfl) h0
  have k1 := h1
  have lt1 : ∀ x ∈ p1, x.block < W.heap.size := by obtain ⟨m, hm⟩ := k1; exact DataW.trod_lt m _ _ _ hm
  obtain ⟨s1, rfl⟩ := okWide_string Tryd.underlying9 (hval 1 9 v1 rfl rfl)
  clear hA0 hval0 hsz0
  refine (P.ans_walk n0 A0 c0 l0 s1 W hT hr0 hc0).mono fun e W' ⟨he, bel⟩ => ?_
  subst he
  obtain ⟨pv, hpv⟩ := names_back bel hV
  exact ⟨_, rfl, _, _, _, [], _, _, hW', trodAll_mk1 (shut_bool Tryd.underlying4 _), (trodAll_cons_mk (Below.trod Facts.laidOut (by kernel_rfl) (of_decide_eq_true (by kernel_rfl)) k0 bel lt0) (trodAll_cons_mk (Below.trod Facts.laidOut (by kernel_rfl) (of_decide_eq_true (by kernel_rfl)) k1 bel lt1) trodAll_mk0)), hpv, bel.frame _, fun h => by cases h⟩
theorem k10 : (Rows.fnExactAnswerRow.inPlace == Tryd.prog.inPlace 5) = true := by kernel_rfl
theorem k11 : (Rows.fnExactAnswerRow.unfollowed == Tryd.prog.unfollowed 5) = true := by kernel_rfl
theorem k12 : (Rows.fnExactAnswerRow.recurses == Tryd.prog.recurses 5) = true := by kernel_rfl
theorem k13 : (Rows.fnExactAnswerRow.named == Tryd.prog.varsNamed 5) = true := by kernel_rfl
theorem over : Rows.fnExactAnswerRow.holds Tryd.pinned (OpenSpec.ofChange Rows.fnExactAnswerSpec) :=
  OpenClaim.holds_of_wide 5 Tryd.f5 rfl rfl rfl rfl rfl rfl rfl ⟨rfl, rfl, rfl, rfl, rfl⟩ rfl rfl rfl rfl rfl (by kernel_rfl) Tryd.func5
    (joined_of 5 Tryd.f5 Rows.fnExactAnswerSpec Rows.fnExactAnswerRow (by kernel_rfl) (by kernel_rfl) (by kernel_rfl) rfl rfl Facts.stopKnobs k10 k11 k12 k13 (by kernel_rfl) (by kernel_rfl) (by kernel_rfl) (by kernel_rfl) (by kernel_rfl) (by kernel_rfl) (by kernel_rfl) (by kernel_rfl) (by kernel_rfl) rfl rfl rfl rfl rfl rfl (by kernel_rfl) (by kernel_rfl) (by kernel_rfl))
    (of_decide_eq_true (by kernel_rfl)) (by unfold Func.isWrapper; rw [if_neg (by decide +kernel)]; exact ⟨rfl, rfl⟩)
    (fun os started H enc _ => lifted os started H enc)
theorem proved : Rows.FnExactAnswerSaid := over
end Go.Proofs.YtpdnabhpkdchjaaDoor.fnExactAnswer
namespace Go.Proofs.YtpdnabhpkdchjaaDoor
theorem fnExactAnswerCard_holds : Rows.FnExactAnswerCardSaid :=
  Claim7.holds_tied_plain_at .later [] [.data, .data, .data, .data] true (true, "3535572eedccaf819ec62b2d03865cafaa398ae32f8b1aa05a99bb5a0e86f2eb") false
    fnExactAnswer.proved (fun _ h => by cases h) (by kernel_rfl) (fun _ h => by cases h) fnExactAnswer_row_tie rfl ⟨rfl, rfl⟩ (by kernel_rfl) rfl
    (fun f fn hf hfn => by
      obtain rfl : f = 5 := Option.some.inj ((show Tryd.prog.funcNamed "loop.example/treadle/laws.FnExactAnswer" = some 5 by kernel_rfl).symm.trans hf) |>.symm
      obtain rfl : fn = Tryd.f5 := (Option.some.inj (Tryd.func5.symm.trans hfn)).symm
      exact ⟨by kernel_rfl, fun j t ht => by
        rw [Tryd.params5] at ht
        rcases j with _ | _ | j
        · obtain rfl : 24 = t := by simpa using ht
          kernel_rfl
        · obtain rfl : 9 = t := by simpa using ht
          kernel_rfl
        · simp at ht⟩)
    (by kernel_rfl)
#print axioms fnExactAnswerCard_holds
end Go.Proofs.YtpdnabhpkdchjaaDoor
