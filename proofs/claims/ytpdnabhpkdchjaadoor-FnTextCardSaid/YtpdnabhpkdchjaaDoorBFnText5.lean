/- The statement FnTextCardSaid holds of the given program, for every argument; there are no conditions. (Part 5 of 6.) -/
import Derived.Test.YtpdnabhpkdchjaaDoorBFnText4
namespace Go.Proofs.YtpdnabhpkdchjaaDoor.P
open Go.RowKit Go.Proofs.YtpdnabhpkdchjaaDoorW.PrintWords Go.Proofs.YtpdnabhpkdchjaaDoorW.PrintLast Go.Proofs.YtpdnabhpkdchjaaDoorW.PrintMore
attribute [local go_sem ↓] Go.wp_at_zero Go.wp_at_succ
set_option linter.unusedVariables false
set_option linter.unusedSimpArgs false
structure DoSt (w0 w:World) (gl gs ge gd:Nat) (lv sv ev dv:List Value) (v1 v2:Value) (ss:List S87) (dd:List Bool):Prop where
 hl:w.heap[gl]?=some (.cells lv.toArray 31 (0,0))
 hs:w.heap[gs]?=some (.cells sv.toArray 83 (0,0))
 he:w.heap[ge]?=some (.cells ev.toArray 52 (0,0))
 hd:w.heap[gd]?=some (.cells dv.toArray 85 (0,0))
 H1:Kd.R k87 87 w w0.heap.size (fun _=>True) v1 ss
 H2:Kd.R Kd.bool 4 w w0.heap.size (fun _=>True) v2 dd
 hB:Below w0.heap.size w0 w
 gle:w0.heap.size≤gl
 gse:w0.heap.size≤gs
 gee:w0.heap.size≤ge
 gde:w0.heap.size≤gd
theorem DoSt.begin {w0 w:World} {gl gs ge gd:Nat} {lv ev dv:List Value} {x0 x1 x2 v0 v1 v2:Value} {ss:List S87} {dd:List Bool}
  (hl:w.heap[gl]?=some (.cells lv.toArray 31 (0,0))) (hs:w.heap[gs]?=some (.cells #[x0,x1,x2] 83 (0,0))) (he:w.heap[ge]?=some (.cells ev.toArray 52 (0,0))) (hd:w.heap[gd]?=some (.cells dv.toArray 85 (0,0)))
  (H1:Kd.R k87 87 w w0.heap.size (fun _=>True) v1 ss) (H2:Kd.R Kd.bool 4 w w0.heap.size (fun _=>True) v2 dd) (hB:Below w0.heap.size w0 w)
  (gle:w0.heap.size≤gl) (gse:w0.heap.size≤gs) (gee:w0.heap.size≤ge) (gde:w0.heap.size≤gd) (n1:gl ≠ gs) (n2:ge ≠ gs) (n3:gd ≠ gs) :
  DoSt w0 (((w.setCell ⟨gs,0,none⟩ v0).setCell ⟨gs,1,none⟩ v1).setCell ⟨gs,2,none⟩ v2) gl gs ge gd lv [v0,v1,v2] ev dv v1 v2 ss dd where
 hl:=blk_far (blk_far (blk_far hl n1 _) n1 _) n1 _
 hs:=blk_put (blk_put (blk_put hs 0 v0 rfl) 1 v1 rfl) 2 v2 rfl
 he:=blk_far (blk_far (blk_far he n2 _) n2 _) n2 _
 hd:=blk_far (blk_far (blk_far hd n3 _) n3 _) n3 _
 H1:=R_off rfl (R_off rfl (R_off rfl H1 (Kd.R_ne H1 hs (by decide)) _) (Kd.R_ne H1 hs (by decide)) _) (Kd.R_ne H1 hs (by decide)) _
 H2:=R_off rfl (R_off rfl (R_off rfl H2 (Kd.R_ne H2 hs (by decide)) _) (Kd.R_ne H2 hs (by decide)) _) (Kd.R_ne H2 hs (by decide)) _
 hB:=below_set (below_set (below_set hB gse) gse) gse
 gle:=gle
 gse:=gse
 gee:=gee
 gde:=gde
theorem cnt_any (s b:Int) (bo:Bool) (g gr n c:Nat) (v2:Value) (l:List S87) (w:World) (base:Nat) (ok:Nat→Prop) (h1:s<n)
  (hb:w.heap[g]?=some (.cells #[.bool bo,.slice (some ⟨gr,0,none⟩) n c,v2] 83 (0,0))) (HO:Kd.R k87 87 w base ok (.slice (some ⟨gr,0,none⟩) n c) l) :
  Calls Tryd.prog 74 #[.int .i64 s,.int .i64 b,.pointer (some ⟨g,0,none⟩)] w fun e w'=>e=.returned (.tuple #[])∧Kd.R k87 87 w' base ok (.slice (some ⟨gr,0,none⟩) n c) (addS l s b)∧w.grownBy w' (some gr):=by
 by_cases h0:s<0
 ·refine (cnt_out s b _ w h0).mono ?_
  rintro e w' ⟨he,rfl⟩
  exact ⟨he,by rw [addS,if_pos h0];exact HO,World.grownBy.refl w _⟩
 rw [addS,if_neg h0]
 exact cnt_calls s b bo g gr n c v2 l w base ok (by omega) h1 hb HO
theorem lose_any (s:Int) (bo:Bool) (g gr n c:Nat) (v2:Value) (l:List S87) (w:World) (base:Nat) (ok:Nat→Prop) (h1:s<n)
  (hb:w.heap[g]?=some (.cells #[.bool bo,.slice (some ⟨gr,0,none⟩) n c,v2] 83 (0,0))) (HO:Kd.R k87 87 w base ok (.slice (some ⟨gr,0,none⟩) n c) l) :
  Calls Tryd.prog 75 #[.int .i64 s,.pointer (some ⟨g,0,none⟩)] w fun e w'=>e=.returned (.tuple #[])∧Kd.R k87 87 w' base ok (.slice (some ⟨gr,0,none⟩) n c) (loseAt l s)∧w.grownBy w' (some gr):=by
 by_cases h0:s<0
 ·refine (lose_none s _ w h0).mono ?_
  rintro e w' ⟨he,rfl⟩
  exact ⟨he,by rw [loseAt,if_pos h0];exact HO,World.grownBy.refl w _⟩
 rw [loseAt,if_neg h0]
 exact lose_calls s bo g gr n c v2 l w base ok (by omega) h1 hb HO
theorem told_at {n:Int} {A:Option Addr} {c:Nat} {l:List S98} {b:Bool} {A1:Option Addr} {c1:Nat} {ss:List S87} {A2:Option Addr} {c2:Nat} {dd:List Bool} {w:World} (i:Int) (hr:Kd.C k98 w A l.length l) (hc:l.length≤c) (hr1:Kd.C k87 w A1 ss.length ss) (hc1:ss.length≤c1) (hr2:Kd.C Kd.bool w A2 dd.length dd) (hc2:dd.length≤c2)
  (hl:l.length≤1048576) (hd:dd.length=l.length) (h0:0≤i) (h1:i<ss.length) :
  Calls Tryd.prog 77 #[.agg #[.int .i64 n,.slice A l.length c],.agg #[.bool b,.slice A1 ss.length c1,.slice A2 dd.length c2],.int .i64 i] w fun e w'=>e=.returned (.int .i64 (toldC l dd i (rd_T87 ss i)))∧Below w.heap.size w w':=by
 obtain ⟨k,h⟩:=(implTold_ev n l dd b ss i hl hd h0 h1).rounds
 exact impl_told.calls k n A c l b A1 c1 ss A2 c2 dd i _ w hr hc hr1 hc1 hr2 hc2 h
theorem dead_at {n:Int} {A:Option Addr} {c:Nat} {l:List S98} {b:Bool} {A1:Option Addr} {c1:Nat} {ss:List S87} {A2:Option Addr} {c2:Nat} {dd:List Bool} {w:World} {x:Bool} (i:Int) (hx:deadAt l dd i=x) (hr:Kd.C k98 w A l.length l) (hc:l.length≤c) (hr1:Kd.C k87 w A1 ss.length ss) (hc1:ss.length≤c1) (hr2:Kd.C Kd.bool w A2 dd.length dd) (hc2:dd.length≤c2)
  (hl:l.length≤1048576) (hd:dd.length=l.length) :
  Calls Tryd.prog 76 #[.agg #[.int .i64 n,.slice A l.length c],.agg #[.bool b,.slice A1 ss.length c1,.slice A2 dd.length c2],.int .i64 i] w fun e w'=>e=.returned (.bool x)∧Below w.heap.size w w':=by
 obtain ⟨k,h⟩:=(implDead_ev n l dd b ss i hl hd).rounds
 rw [← hx]
 exact impl_dead.calls k n A c l b A1 c1 ss A2 c2 dd i _ w hr hc hr1 hc1 hr2 hc2 h
theorem bool_at {w:World} {base:Nat} {ok:Nat→Prop} {g n c:Nat} {dd:List Bool} (h:Kd.R Kd.bool 4 w base ok (.slice (some ⟨g,0,none⟩) n c) dd) (i:Int) (h0:0≤i) (h1:i<n) :
  w.cell? ⟨g,i.toNat,none⟩=some (.bool (rdOf false dd i))∧w.frozen? ⟨g,i.toNat,none⟩=false:=by
 obtain ⟨ce,hcl,hM,hcc,hfr⟩:=Kd.R_elem h false i h0 h1
 have hM0:ce=[.bool (dd.getD i.toNat false)]:=hM
 subst hM0
 have e:i.toNat * Kd.bool.sz+0=i.toNat:=by show i.toNat * 1+0=_;omega
 have q1:=hcc 0 _ rfl
 have q2:=hfr 0
 rw [e] at q1 q2
 exact ⟨q1,q2⟩
theorem own_ge {α:Type} {d:Kd α} {e:Nat} {w:World} {base:Nat} {ok:Nat→Prop} {g n c:Nat} {xs:List α} (h:d.R e w base ok (.slice (some ⟨g,0,none⟩) n c) xs):base≤g:=by
 rcases Kd.R_base2 h with h|⟨k,hk,hb⟩
 ·cases h
 cases hk;exact hb
section
variable {w0 w w' : World} {gl gs ge gd : Nat} {lv sv ev dv : List Value} {v1 v2 : Value} {ss ss' : List S87} {dd dd' : List Bool}
theorem DoSt.sec {gr m cr:Nat} (h:DoSt w0 w gl gs ge gd lv sv ev dv (.slice (some ⟨gr,0,none⟩) m cr) v2 ss dd) (H1:Kd.R k87 87 w' w0.heap.size (fun _=>True) (.slice (some ⟨gr,0,none⟩) m cr) ss') (hg:w.grownBy w' (some gr)) :
  DoSt w0 w' gl gs ge gd lv sv ev dv (.slice (some ⟨gr,0,none⟩) m cr) v2 ss' dd where
 hl:=blk_grown h.hl hg (Kd.R_ne h.H1 h.hl (by decide))
 hs:=blk_grown h.hs hg (Kd.R_ne h.H1 h.hs (by decide))
 he:=blk_grown h.he hg (Kd.R_ne h.H1 h.he (by decide))
 hd:=blk_grown h.hd hg (Kd.R_ne h.H1 h.hd (by decide))
 H1:=H1
 H2:=R_on rfl h.H2 hg (by
  obtain ⟨inner,ho⟩:=Kd.R_own h.H1
  obtain ⟨cells,hc⟩:=own_typed ho gr rfl
  exact Kd.R_ne h.H2 hc (by decide))
 hB:=pw_below_grown h.hB _ h.hB.size hg (fun k hk=>by cases hk;exact own_ge h.H1)
 gle:=h.gle
 gse:=h.gse
 gee:=h.gee
 gde:=h.gde
theorem DoSt.dead {gb m cb:Nat} (h:DoSt w0 w gl gs ge gd lv sv ev dv v1 (.slice (some ⟨gb,0,none⟩) m cb) ss dd) (i:Int) (x:Bool) :
  DoSt w0 (w.setCell ⟨gb,i.toNat,none⟩ (.bool x)) gl gs ge gd lv sv ev dv v1 (.slice (some ⟨gb,0,none⟩) m cb) ss (dd.set i.toNat x):=by
 obtain ⟨H2,hg⟩:=Kd.R_putg h.H2 i x
 exact {
 hl:=blk_grown h.hl hg (Kd.R_ne h.H2 h.hl (by decide))
 hs:=blk_grown h.hs hg (Kd.R_ne h.H2 h.hs (by decide))
 he:=blk_grown h.he hg (Kd.R_ne h.H2 h.he (by decide))
 hd:=blk_grown h.hd hg (Kd.R_ne h.H2 h.hd (by decide))
 H1:=R_on rfl h.H1 hg (by
  obtain ⟨inner,ho⟩:=Kd.R_own h.H2
  obtain ⟨cells,hc⟩:=own_typed ho gb rfl
  exact Kd.R_ne h.H1 hc (by decide))
 H2:=H2
 hB:=pw_below_grown h.hB _ h.hB.size hg (fun k hk=>by cases hk;exact own_ge h.H2)
 gle:=h.gle
 gse:=h.gse
 gee:=h.gee
 gde:=h.gde }
theorem DoSt.up (h:DoSt w0 w gl gs ge gd lv sv ev dv v1 v2 ss dd) (hb:Below w.heap.size w w'):DoSt w0 w' gl gs ge gd lv sv ev dv v1 v2 ss dd where
 hl:=blk_below h.hl hb
 hs:=blk_below h.hs hb
 he:=blk_below h.he hb
 hd:=blk_below h.hd hb
 H1:=R_up h.H1 hb
 H2:=R_up h.H2 hb
 hB:=below_step h.hB hb
 gle:=h.gle
 gse:=h.gse
 gee:=h.gee
 gde:=h.gde
theorem DoSt.fill {x0 x1 x2 x3 y0 y1 y2 y3:Value} (h:DoSt w0 w gl gs ge gd lv sv ev [x0,x1,x2,x3] v1 v2 ss dd) :
  DoSt w0 ((((w.setCell ⟨gd,0,none⟩ y0).setCell ⟨gd,1,none⟩ y1).setCell ⟨gd,2,none⟩ y2).setCell ⟨gd,3,none⟩ y3) gl gs ge gd lv sv ev [y0,y1,y2,y3] v1 v2 ss dd where
 hl:=blk_far (blk_far (blk_far (blk_far h.hl (blk_ne h.hl h.hd (by decide)) _) (blk_ne h.hl h.hd (by decide)) _) (blk_ne h.hl h.hd (by decide)) _) (blk_ne h.hl h.hd (by decide)) _
 hs:=blk_far (blk_far (blk_far (blk_far h.hs (blk_ne h.hs h.hd (by decide)) _) (blk_ne h.hs h.hd (by decide)) _) (blk_ne h.hs h.hd (by decide)) _) (blk_ne h.hs h.hd (by decide)) _
 he:=blk_far (blk_far (blk_far (blk_far h.he (blk_ne h.he h.hd (by decide)) _) (blk_ne h.he h.hd (by decide)) _) (blk_ne h.he h.hd (by decide)) _) (blk_ne h.he h.hd (by decide)) _
 hd:=blk_put (blk_put (blk_put (blk_put h.hd 0 y0 rfl) 1 y1 rfl) 2 y2 rfl) 3 y3 rfl
 H1:=R_off rfl (R_off rfl (R_off rfl (R_off rfl h.H1 (Kd.R_ne h.H1 h.hd (by decide)) _) (Kd.R_ne h.H1 h.hd (by decide)) _) (Kd.R_ne h.H1 h.hd (by decide)) _) (Kd.R_ne h.H1 h.hd (by decide)) _
 H2:=R_off rfl (R_off rfl (R_off rfl (R_off rfl h.H2 (Kd.R_ne h.H2 h.hd (by decide)) _) (Kd.R_ne h.H2 h.hd (by decide)) _) (Kd.R_ne h.H2 h.hd (by decide)) _) (Kd.R_ne h.H2 h.hd (by decide)) _
 hB:=below_set (below_set (below_set (below_set h.hB h.gde) h.gde) h.gde) h.gde
 gle:=h.gle
 gse:=h.gse
 gee:=h.gee
 gde:=h.gde
end
theorem evOk_cases {n:Int} {l:List S98} {op of dir:Int} (h:eventOk n l op of dir=true) :
  ((op=1 ∨ op=2)∧0≤of∧of<(l.length:Int)∧(dir=1 ∨ dir=-1)) ∨ ((op=3 ∨ op=4)∧0≤of∧of<(l.length:Int)) ∨ (op=5∧0≤of∧of<n):=by
 unfold eventOk at h
 split at h
 ·split at h
  ·rename_i h1
   simp at h
   exact .inl ⟨h1,h.1.1,h.1.2,h.2⟩
  split at h
  ·rename_i h1
   simp at h
   exact .inr (.inl ⟨h1,h.1.1,h.1.2⟩)
  split at h
  ·rename_i h1
   simp at h
   exact .inr (.inr ⟨h1,h.1.1,h.1.2⟩)
  cases h
 cases h
theorem told_of {n:Int} {A:Option Addr} {c:Nat} {l:List S98} {b:Bool} {A1:Option Addr} {m1 c1:Nat} {ss:List S87} {A2:Option Addr} {m2 c2:Nat} {dd:List Bool} {w:World} {b1 b2:Nat} {o1 o2:Nat→Prop} (i:Int) (hr:Kd.C k98 w A l.length l) (hc:l.length≤c) (H1:Kd.R k87 87 w b1 o1 (.slice A1 m1 c1) ss) (H2:Kd.R Kd.bool 4 w b2 o2 (.slice A2 m2 c2) dd) (e1:m1=ss.length) (e2:m2=dd.length)
  (hl:l.length≤1048576) (hd:dd.length=l.length) (h0:0≤i) (h1:i<m1) :
  Calls Tryd.prog 77 #[.agg #[.int .i64 n,.slice A l.length c],.agg #[.bool b,.slice A1 m1 c1,.slice A2 m2 c2],.int .i64 i] w fun e w'=>e=.returned (.int .i64 (toldC l dd i (rd_T87 ss i)))∧Below w.heap.size w w':=by
 subst e1 e2
 exact told_at i hr hc (Kd.R_reads' H1).2.2 (Kd.R_reads' H1).2.1 (Kd.R_reads' H2).2.2 (Kd.R_reads' H2).2.1 hl hd h0 h1
theorem retold_step (l:List S98) (dd:List Bool) (ss:List S87) (k:Nat) (hk:k<ss.length) :
  (retoldTo l dd ss k).set (k:Int).toNat ⟨toldC l dd (k:Int) (rd_T87 (retoldTo l dd ss k) (k:Int)),(rd_T87 (retoldTo l dd ss k) (k:Int)).f1,(rd_T87 (retoldTo l dd ss k) (k:Int)).f2,(rd_T87 (retoldTo l dd ss k) (k:Int)).f3,(rd_T87 (retoldTo l dd ss k) (k:Int)).f4⟩=retoldTo l dd ss (k+1):=by
 rw [Int.toNat_natCast,retoldTo_at l dd ss k hk]
 exact retoldTo_succ l dd ss k hk
set_option maxHeartbeats 4000000 in
set_option maxRecDepth 100000 in
theorem do_is (n:Int) (A:Option Addr) (c:Nat) (l:List S98) (b:Bool) (A1:Option Addr) (c1:Nat) (ss:List S87) (A2:Option Addr) (c2:Nat) (dd:List Bool) (op of dir:Int) (w:World)
  (hr:Kd.C k98 w A l.length l) (hc:l.length≤c) (hr1:Kd.C k87 w A1 ss.length ss) (hc1:ss.length≤c1) (hr2:Kd.C Kd.bool w A2 dd.length dd) (hc2:dd.length≤c2)
  (hl:layoutOk n l=0) (hns:(ss.length:Int)=n) (hnd:dd.length=l.length) (hev:eventOk n l op of dir=true) :
  Calls Tryd.prog 65 #[.agg #[.int .i64 n,.slice A l.length c],.agg #[.bool b,.slice A1 ss.length c1,.slice A2 dd.length c2],.agg #[.int .i64 op,.int .i64 of,.int .i64 dir]] w fun e w'=>∃ v2_ v3_:Value,e=.returned (.agg #[.int .i64 (doCode l ss dd op of),.bool true,v2_,v3_])∧Kd.R k87 87 w' w.heap.size (fun _=>True) v2_ (doSecs l ss dd op of dir)∧Kd.R Kd.bool 4 w' w.heap.size (fun _=>True) v3_ (doDead l ss dd op of)∧Below w.heap.size w w':=by
 have hn:=lay_n hl
 have hs:ss.length≤1000000:=by omega
 have hd:dd.length≤1000000:=by omega
 have hpos:0<ss.length:=by omega
 have HN:=Aside0.mk (And.intro hl (And.intro hns (And.intro hnd hev)))
 clear hn hl hns hnd hev
 have f1:impl_Section.f ss=some ss:=by unfold impl_Section.f;rw [if_pos hs]
 have f2:slices_Clone_bool_bool.f dd=some dd:=by unfold slices_Clone_bool_bool.f;rw [if_pos hd]
 have HR:=Aside0.mk hr
 have HR1:=Aside0.mk hr1
 have HR2:=Aside0.mk hr2
 clear hr hr1 hr2
 go_enter Tryd.func65,Tryd.ntmps65
 go_upto_region 1 with (first|((with_reducible refine gate_dst (N:=3) rfl ?_);refine box_event ?hg (N:=3) ?hd (cs:=#[.int .i64 n,.slice A l.length c]) (t:=31) ?hr ?_;(case hd=>rfl);(case hg=>rfl);(case hr=>first|(go_simp;done)|(go_simp;rfl));intro gl el wl kl bl)|((with_reducible refine gate_dst (N:=4) rfl ?_);refine box_event ?hg (N:=4) ?hd (cs:=#[.bool b,.slice A1 ss.length c1,.slice A2 dd.length c2]) (t:=83) ?hr ?_;(case hd=>rfl);(case hg=>rfl);(case hr=>first|(go_simp;done)|(go_simp;rfl));intro gs es ws ks bs)|((with_reducible refine gate_dst (N:=5) rfl ?_);refine box_event ?hg (N:=5) ?hd (cs:=#[.int .i64 op,.int .i64 of,.int .i64 dir]) (t:=52) ?hr ?_;(case hd=>rfl);(case hg=>rfl);(case hr=>first|(go_simp;done)|(go_simp;rfl));intro ge ee we ke be)|((with_reducible refine gate_dst (N:=6) rfl ?_);refine box_event ?hg (N:=6) ?hd (cs:=#[.int .i64 0,.bool false,.slice none 0 0,.slice none 0 0]) (t:=85) ?hr ?_;(case hd=>rfl);(case hg=>rfl);(case hr=>first|(go_simp;done)|(go_simp;rfl));intro gd ed wd kd_ bd))
 have KL:=Aside0.mk (blk_below (blk_below (blk_below kl bs) be) bd)
 have KS:=Aside0.mk (blk_below (blk_below ks be) bd)
 have KE:=Aside0.mk (blk_below ke bd)
 have KD:=Aside0.mk kd_
 have BB:=Aside0.mk (below_step (below_step (below_step bl bs) be) bd)
 have GL:=Aside0.mk (show w.heap.size≤gl by rw [el];exact Nat.le_refl _)
 have GS:=Aside0.mk (show w.heap.size≤gs by rw [es];exact bl.size)
 have GE:=Aside0.mk (show w.heap.size≤ge by rw [ee];exact (below_step bl bs).size)
 have GD:=Aside0.mk (show w.heap.size≤gd by rw [ed];exact (below_step (below_step bl bs) be).size)
 clear kl ks ke kd_ bl bs be bd el es ee ed
 simp only [Act.put,List.setIfInBounds_toArray,List.set_cons_zero,List.set_cons_succ]
 go_cut [] from 12 to 18 (fun wx=>∃ v1 v2:Value,DoSt w wx gl gs ge gd [.int .i64 n,.slice A l.length c] [.bool true,v1,v2] [.int .i64 op,.int .i64 of,.int .i64 dir] [.int .i64 0,.bool false,.slice none 0 0,.slice none 0 0] v1 v2 ss dd)
 case first =>
  have e1:wd.drew.cell? ⟨gs,1,none⟩=some (.slice A1 ss.length c1):=(blk_cell (blk_drew KS.out) 1).trans rfl
  have e2:wd.drew.cell? ⟨gs,2,none⟩=some (.slice A2 dd.length c2):=(blk_cell (blk_drew KS.out) 2).trans rfl
  have kx:=Aside0.mk (blk_drew KS.out)
  have bx:=Aside0.mk (below_drew1 BB.out)
  have by_:=Aside0.mk (below_drew1 (Below.refl wd.heap.size wd))
  go_region_with (first|(go_at_call 63;refine (impl_Section.calls A1 c1 ss ss _ (Kd.C_below HR1.out bx.out) hc1 f1).mono ?_;rintro e w' ⟨v1,rfl,ho1,hb1⟩;obtain ⟨Aa,ca,rfl⟩:=Kd.R_slice ho1;have kx:=Aside0.mk (blk_below kx.out hb1);have c0_:w'.cell? ⟨gs,0,none⟩=some (.bool b):=(blk_cell kx.out 0).trans rfl;have c1_:w'.cell? ⟨gs,1,none⟩=some (.slice A1 ss.length c1):=(blk_cell kx.out 1).trans rfl;have c2_:w'.cell? ⟨gs,2,none⟩=some (.slice A2 dd.length c2):=(blk_cell kx.out 2).trans rfl;have z0_:=blk_frozen kx.out 0;have z1_:=blk_frozen kx.out 1;have z2_:=blk_frozen kx.out 2;have HO1:=Aside0.mk (Kd.R_lower ho1 bx.out.size);(try (have HO2:=Aside0.mk (R_up HO2.out hb1)));have bx:=Aside0.mk (below_step bx.out hb1);have by_:=Aside0.mk (below_step by_.out hb1);clear hb1 ho1)|(go_at_call 64;refine (slices_Clone_bool_bool.calls A2 c2 dd dd _ (Kd.C_below HR2.out bx.out) hc2 f2).mono ?_;rintro e w' ⟨v2,rfl,ho2,hb2⟩;obtain ⟨Ab,cb,rfl⟩:=Kd.R_slice ho2;have kx:=Aside0.mk (blk_below kx.out hb2);have c0_:w'.cell? ⟨gs,0,none⟩=some (.bool b):=(blk_cell kx.out 0).trans rfl;have c1_:w'.cell? ⟨gs,1,none⟩=some (.slice A1 ss.length c1):=(blk_cell kx.out 1).trans rfl;have c2_:w'.cell? ⟨gs,2,none⟩=some (.slice A2 dd.length c2):=(blk_cell kx.out 2).trans rfl;have z0_:=blk_frozen kx.out 0;have z1_:=blk_frozen kx.out 1;have z2_:=blk_frozen kx.out 2;have HO2:=Aside0.mk (Kd.R_lower ho2 bx.out.size);(try (have HO1:=Aside0.mk (R_up HO1.out hb2)));have bx:=Aside0.mk (below_step bx.out hb2);have by_:=Aside0.mk (below_step by_.out hb2);clear hb2 ho2))
  all_goals (go_wp2_with fail;go_meet)
  all_goals exact ⟨_,_,DoSt.begin (blk_below KL.out by_.out) kx.out (blk_below KE.out by_.out) (blk_below KD.out by_.out) HO1.out HO2.out bx.out GL.out GS.out GE.out GD.out (blk_ne KL.out KS.out (by decide)) (blk_ne KE.out KS.out (by decide)) (blk_ne KD.out KS.out (by decide))⟩
 case rest =>
  obtain ⟨v1,v2,ST⟩:=hcut
  obtain ⟨gr,cr,e1,_,_,_⟩:=Kd.R_form ST.H1 hpos
  obtain ⟨Ad,cd,e2⟩:=Kd.R_slice ST.H2
  subst e1 e2
  have SA:=Aside0.mk (show DoSt w wc gl gs ge gd [.int .i64 n,.slice A l.length c] [.bool true,.slice (some ⟨gr,0,none⟩) ss.length cr,.slice Ad dd.length cd] [.int .i64 op,.int .i64 of,.int .i64 dir] [.int .i64 0,.bool false,.slice none 0 0,.slice none 0 0] (.slice (some ⟨gr,0,none⟩) ss.length cr) (.slice Ad dd.length cd) ss dd from ST)
  have ce0:wc.cell? ⟨ge,0,none⟩=some (.int .i64 op):=(blk_cell ST.he 0).trans rfl
  have ce1:wc.cell? ⟨ge,1,none⟩=some (.int .i64 of):=(blk_cell ST.he 1).trans rfl
  have ce2:wc.cell? ⟨ge,2,none⟩=some (.int .i64 dir):=(blk_cell ST.he 2).trans rfl
  have cs1:wc.cell? ⟨gs,1,none⟩=some (.slice (some ⟨gr,0,none⟩) ss.length cr):=(blk_cell ST.hs 1).trans rfl
  have cs2:wc.cell? ⟨gs,2,none⟩=some (.slice Ad dd.length cd):=(blk_cell ST.hs 2).trans rfl
  have cs0:wc.cell? ⟨gs,0,none⟩=some (.bool true):=(blk_cell ST.hs 0).trans rfl
  have cl0:wc.cell? ⟨gl,0,none⟩=some (.int .i64 n):=(blk_cell ST.hl 0).trans rfl
  have cl1:wc.cell? ⟨gl,1,none⟩=some (.slice A l.length c):=(blk_cell ST.hl 1).trans rfl
  clear ST KL KS KE KD BB
  go_upto_block 0 with fail
  go_cut [] from 9 to 115 (fun wx=>Aside0 (DoSt w wx gl gs ge gd [.int .i64 n,.slice A l.length c] [.bool true,.slice (some ⟨gr,0,none⟩) ss.length cr,.slice Ad dd.length cd] [.int .i64 op,.int .i64 of,.int .i64 dir] [.int .i64 0,.bool false,.slice none 0 0,.slice none 0 0] (.slice (some ⟨gr,0,none⟩) ss.length cr) (.slice Ad dd.length cd) (midSecs l ss op of dir) (midDead dd op of))∧Aside0 (doCode l ss dd op of=0))
  case first =>
   obtain ⟨hl,hns,hnd,hev⟩:=HN.out
   have hln:=lay_n hl
   have HL2:=Aside0.mk hln
   rcases evOk_cases hev with ⟨hop,ho0,ho1,hdir⟩|⟨hop,ho0,ho1⟩|⟨rfl,ho0,ho1⟩
   ·have lr:=lay_rd hl of ho0 ho1
    have ho2:=ho1
    rw [← hnd] at ho1
    obtain ⟨gb,cb,e,_,_,_⟩:=Kd.R_form SA.out.H2 (show 0<dd.length by omega)
    cases e
    obtain ⟨x0,xf⟩:=bool_at SA.out.H2 of ho0 ho1
    obtain ⟨ad,e,y0,y1⟩:=at_T98 HR.out of ho0 (by omega)
    subst e
    have lr0:(rd_T98 l of).f0<(ss.length:Int):=by omega
    have lr1:(rd_T98 l of).f1<(ss.length:Int):=by omega
    have LR0:=Aside0.mk lr0
    have LR1:=Aside0.mk lr1
    clear lr lr0 lr1 hl hns hnd hev hln
    have Y0:=Aside0.mk y0
    have Y1:=Aside0.mk y1
    clear y0 y1
    rcases Bool.eq_false_or_eq_true (rdOf false dd of) with hdo|hdo
    ·rw [hdo] at x0
     have HDO:=Aside0.mk hdo
     clear hdo
     have hc2:doCode l ss dd op of=2:=by unfold doCode;rw [if_pos hop,if_pos HDO.out]
     have HC2:=Aside0.mk hc2
     clear hc2
     have kd0:=(blk_cell SA.out.hd 0).trans (show _=some (Value.int .i64 0) from rfl)
     have kd1:=(blk_cell SA.out.hd 1).trans (show _=some (Value.bool false) from rfl)
     have kd2:=(blk_cell SA.out.hd 2).trans (show _=some (Value.slice none 0 0) from rfl)
     have kd3:=(blk_cell SA.out.hd 3).trans (show _=some (Value.slice none 0 0) from rfl)
     have kz0:=blk_frozen SA.out.hd 0
     have kz1:=blk_frozen SA.out.hd 1
     have kz2:=blk_frozen SA.out.hd 2
     have kz3:=blk_frozen SA.out.hd 3
     rcases hop with rfl|rfl
     all_goals
      go_wp2_with fail
      have SF:=SA.out.fill (y0:=.int .i64 2) (y1:=.bool true) (y2:=(.slice (some ⟨gr,0,none⟩) ss.length cr)) (y3:=(.slice (some ⟨gb,0,none⟩) dd.length cd))
      refine bodyPost_ret (results_cell_row rfl _ _ gd 85 _ (0,0) _ rfl SF.hd Tryd.underlying85 rfl (by kernel_rfl)) rfl ⟨_,_,by rw [HC2.out],?_,?_,SF.hB⟩
      ·unfold doSecs;rw [HC2.out];exact SF.H1
      unfold doDead;rw [HC2.out];exact SF.H2
    rw [hdo] at x0
    have HDO:=Aside0.mk hdo
    clear hdo
    have y0:=pw_cell_below SA.out.hB Y0.out
    have y1:=pw_cell_below SA.out.hB Y1.out
    rcases hdir with rfl|rfl
    ·rcases hop with rfl|rfl
     ·go_upto_region 12 with (first|((with_reducible refine gate_dst (N:=9) rfl ?_);refine box_event ?hg (N:=9) ?hd (cs:=#[.int .i64 0,.int .i64 0]) (t:=98) ?hr ?_;(case hd=>rfl);(case hg=>rfl);(case hr=>first|(go_simp;done)|(go_simp;rfl));intro gc ec wb kc bc;have KC:=Aside0.mk kc;have EC:=Aside0.mk ec;have BC:=Aside0.mk bc;have zc0:=blk_frozen kc 0;have zc1:=blk_frozen kc 1;have kc0:=(blk_cell kc 0).trans (show _=some (Value.int .i64 0) from rfl);have kc1:=(blk_cell kc 1).trans (show _=some (Value.int .i64 0) from rfl);have e0:=pw_cell_below bc ce0;have e1:=pw_cell_below bc ce1;have e2:=pw_cell_below bc ce2;have ss1:=pw_cell_below bc cs1;have ss2:=pw_cell_below bc cs2;clear kc ec bc))
      have KX:=Aside0.mk (blk_put (blk_put KC.out 0 (.int .i64 (rd_T98 l of).f0) rfl) 1 (.int .i64 (rd_T98 l of).f1) rfl)
      have BX:=Aside0.mk (below_set (j:=1) (v:=(.int .i64 (rd_T98 l of).f1)) (below_set (j:=0) (v:=(.int .i64 (rd_T98 l of).f0)) BC.out (Nat.le_of_eq EC.out.symm)) (Nat.le_of_eq EC.out.symm))
      have S1:=Aside0.mk (SA.out.up BX.out)
      clear SA ce0 ce1 ce2 cs0 cs1 cs2 cl0 cl1 x0 xf KC BC BX zc0 zc1 kc0 kc1 e0 e1 e2 ss1 ss2 y0 y1 EC
      generalize ((wb.setCell ⟨gc,0,none⟩ (.int .i64 (rd_T98 l of).f0)).setCell ⟨gc,1,none⟩ (.int .i64 (rd_T98 l of).f1))=w1 at S1 KX ⊢
      have kge0:w1.cell? ⟨ge,0,none⟩=some (.int .i64 1):=(blk_cell S1.out.he 0).trans rfl
      have kge1:w1.cell? ⟨ge,1,none⟩=some (.int .i64 of):=(blk_cell S1.out.he 1).trans rfl
      have kge2:w1.cell? ⟨ge,2,none⟩=some (.int .i64 1):=(blk_cell S1.out.he 2).trans rfl
      have kgs0:w1.cell? ⟨gs,0,none⟩=some (.bool true):=(blk_cell S1.out.hs 0).trans rfl
      have kgs1:w1.cell? ⟨gs,1,none⟩=some (.slice (some ⟨gr,0,none⟩) ss.length cr):=(blk_cell S1.out.hs 1).trans rfl
      have kgs2:w1.cell? ⟨gs,2,none⟩=some (.slice (some ⟨gb,0,none⟩) dd.length cd):=(blk_cell S1.out.hs 2).trans rfl
      have kgl0:w1.cell? ⟨gl,0,none⟩=some (.int .i64 n):=(blk_cell S1.out.hl 0).trans rfl
      have kgl1:w1.cell? ⟨gl,1,none⟩=some (.slice (some ad) l.length c):=(blk_cell S1.out.hl 1).trans rfl
      have kc0:w1.cell? ⟨gc,0,none⟩=some (.int .i64 (rd_T98 l of).f0):=(blk_cell KX.out 0).trans rfl
      have kc1:w1.cell? ⟨gc,1,none⟩=some (.int .i64 (rd_T98 l of).f1):=(blk_cell KX.out 1).trans rfl
      go_upto_region 14 with (go_at_call 74;refine (cnt_any _ _ true gs gr ss.length cr _ _ _ _ _ LR0.out S1.out.hs S1.out.H1).mono ?_;rintro e w2 ⟨rfl,hR,hg⟩;have S2:=Aside0.mk (S1.out.sec hR hg);have KY:=Aside0.mk (blk_grown KX.out hg (Kd.R_ne S1.out.H1 KX.out (by decide)));clear hR hg)
      clear kge0 kge1 kge2 kgs0 kgs1 kgs2 kgl0 kgl1
      clear kc0 kc1 S1 KX
      have kge0:w2.cell? ⟨ge,0,none⟩=some (.int .i64 1):=(blk_cell S2.out.he 0).trans rfl
      have kge1:w2.cell? ⟨ge,1,none⟩=some (.int .i64 of):=(blk_cell S2.out.he 1).trans rfl
      have kge2:w2.cell? ⟨ge,2,none⟩=some (.int .i64 1):=(blk_cell S2.out.he 2).trans rfl
      have kgs0:w2.cell? ⟨gs,0,none⟩=some (.bool true):=(blk_cell S2.out.hs 0).trans rfl
      have kgs1:w2.cell? ⟨gs,1,none⟩=some (.slice (some ⟨gr,0,none⟩) ss.length cr):=(blk_cell S2.out.hs 1).trans rfl
      have kgs2:w2.cell? ⟨gs,2,none⟩=some (.slice (some ⟨gb,0,none⟩) dd.length cd):=(blk_cell S2.out.hs 2).trans rfl
      have kgl0:w2.cell? ⟨gl,0,none⟩=some (.int .i64 n):=(blk_cell S2.out.hl 0).trans rfl
      have kgl1:w2.cell? ⟨gl,1,none⟩=some (.slice (some ad) l.length c):=(blk_cell S2.out.hl 1).trans rfl
      have kc1:w2.cell? ⟨gc,1,none⟩=some (.int .i64 (rd_T98 l of).f1):=(blk_cell KY.out 1).trans rfl
      go_wp2_with (go_at_call 74;refine (cnt_any _ _ true gs gr ss.length cr _ _ _ _ _ LR1.out S2.out.hs S2.out.H1).mono ?_;rintro e w3 ⟨rfl,hR,hg⟩;have S3:=Aside0.mk (S2.out.sec hR hg);clear hR hg)
      go_meet
      case rel=>exact ⟨⟨S3.out⟩,⟨by unfold doCode;rw [if_pos (by decide),HDO.out];rfl⟩⟩
     go_upto_region 12 with (first|((with_reducible refine gate_dst (N:=9) rfl ?_);refine box_event ?hg (N:=9) ?hd (cs:=#[.int .i64 0,.int .i64 0]) (t:=98) ?hr ?_;(case hd=>rfl);(case hg=>rfl);(case hr=>first|(go_simp;done)|(go_simp;rfl));intro gc ec wb kc bc;have KC:=Aside0.mk kc;have EC:=Aside0.mk ec;have BC:=Aside0.mk bc;have zc0:=blk_frozen kc 0;have zc1:=blk_frozen kc 1;have kc0:=(blk_cell kc 0).trans (show _=some (Value.int .i64 0) from rfl);have kc1:=(blk_cell kc 1).trans (show _=some (Value.int .i64 0) from rfl);have e0:=pw_cell_below bc ce0;have e1:=pw_cell_below bc ce1;have e2:=pw_cell_below bc ce2;have ss1:=pw_cell_below bc cs1;have ss2:=pw_cell_below bc cs2;clear kc ec bc))
     have KX:=Aside0.mk (blk_put (blk_put KC.out 0 (.int .i64 (rd_T98 l of).f0) rfl) 1 (.int .i64 (rd_T98 l of).f1) rfl)
     have BX:=Aside0.mk (below_set (j:=1) (v:=(.int .i64 (rd_T98 l of).f1)) (below_set (j:=0) (v:=(.int .i64 (rd_T98 l of).f0)) BC.out (Nat.le_of_eq EC.out.symm)) (Nat.le_of_eq EC.out.symm))
     have S1:=Aside0.mk (SA.out.up BX.out)
     clear SA ce0 ce1 ce2 cs0 cs1 cs2 cl0 cl1 x0 xf KC BC BX zc0 zc1 kc0 kc1 e0 e1 e2 ss1 ss2 y0 y1 EC
     generalize ((wb.setCell ⟨gc,0,none⟩ (.int .i64 (rd_T98 l of).f0)).setCell ⟨gc,1,none⟩ (.int .i64 (rd_T98 l of).f1))=w1 at S1 KX ⊢
     have kge0:w1.cell? ⟨ge,0,none⟩=some (.int .i64 2):=(blk_cell S1.out.he 0).trans rfl
     have kge1:w1.cell? ⟨ge,1,none⟩=some (.int .i64 of):=(blk_cell S1.out.he 1).trans rfl
     have kge2:w1.cell? ⟨ge,2,none⟩=some (.int .i64 1):=(blk_cell S1.out.he 2).trans rfl
     have kgs0:w1.cell? ⟨gs,0,none⟩=some (.bool true):=(blk_cell S1.out.hs 0).trans rfl
     have kgs1:w1.cell? ⟨gs,1,none⟩=some (.slice (some ⟨gr,0,none⟩) ss.length cr):=(blk_cell S1.out.hs 1).trans rfl
     have kgs2:w1.cell? ⟨gs,2,none⟩=some (.slice (some ⟨gb,0,none⟩) dd.length cd):=(blk_cell S1.out.hs 2).trans rfl
     have kgl0:w1.cell? ⟨gl,0,none⟩=some (.int .i64 n):=(blk_cell S1.out.hl 0).trans rfl
     have kgl1:w1.cell? ⟨gl,1,none⟩=some (.slice (some ad) l.length c):=(blk_cell S1.out.hl 1).trans rfl
     have kc0:w1.cell? ⟨gc,0,none⟩=some (.int .i64 (rd_T98 l of).f0):=(blk_cell KX.out 0).trans rfl
     have kc1:w1.cell? ⟨gc,1,none⟩=some (.int .i64 (rd_T98 l of).f1):=(blk_cell KX.out 1).trans rfl
     go_wp2_with (go_at_call 74;refine (cnt_any _ _ true gs gr ss.length cr _ _ _ _ _ LR1.out S1.out.hs S1.out.H1).mono ?_;rintro e w3 ⟨rfl,hR,hg⟩;have S3:=Aside0.mk (S1.out.sec hR hg);clear hR hg)
     go_meet
     case rel=>exact ⟨⟨S3.out⟩,⟨by unfold doCode;rw [if_pos (by decide),HDO.out];rfl⟩⟩
    rcases hop with rfl|rfl
    ·go_upto_region 12 with (first|((with_reducible refine gate_dst (N:=9) rfl ?_);refine box_event ?hg (N:=9) ?hd (cs:=#[.int .i64 0,.int .i64 0]) (t:=98) ?hr ?_;(case hd=>rfl);(case hg=>rfl);(case hr=>first|(go_simp;done)|(go_simp;rfl));intro gc ec wb kc bc;have KC:=Aside0.mk kc;have EC:=Aside0.mk ec;have BC:=Aside0.mk bc;have zc0:=blk_frozen kc 0;have zc1:=blk_frozen kc 1;have kc0:=(blk_cell kc 0).trans (show _=some (Value.int .i64 0) from rfl);have kc1:=(blk_cell kc 1).trans (show _=some (Value.int .i64 0) from rfl);have e0:=pw_cell_below bc ce0;have e1:=pw_cell_below bc ce1;have e2:=pw_cell_below bc ce2;have ss1:=pw_cell_below bc cs1;have ss2:=pw_cell_below bc cs2;clear kc ec bc))
     have KX:=Aside0.mk (blk_put (blk_put (blk_put (blk_put KC.out 0 (.int .i64 (rd_T98 l of).f0) rfl) 1 (.int .i64 (rd_T98 l of).f1) rfl) 0 (.int .i64 (rd_T98 l of).f1) rfl) 1 (.int .i64 (rd_T98 l of).f0) rfl)
     have BX:=Aside0.mk (below_set (j:=1) (v:=(.int .i64 (rd_T98 l of).f0)) (below_set (j:=0) (v:=(.int .i64 (rd_T98 l of).f1)) (below_set (j:=1) (v:=(.int .i64 (rd_T98 l of).f1)) (below_set (j:=0) (v:=(.int .i64 (rd_T98 l of).f0)) BC.out (Nat.le_of_eq EC.out.symm)) (Nat.le_of_eq EC.out.symm)) (Nat.le_of_eq EC.out.symm)) (Nat.le_of_eq EC.out.symm))
     have S1:=Aside0.mk (SA.out.up BX.out)
     clear SA ce0 ce1 ce2 cs0 cs1 cs2 cl0 cl1 x0 xf KC BC BX zc0 zc1 kc0 kc1 e0 e1 e2 ss1 ss2 y0 y1 EC
     generalize ((((wb.setCell ⟨gc,0,none⟩ (.int .i64 (rd_T98 l of).f0)).setCell ⟨gc,1,none⟩ (.int .i64 (rd_T98 l of).f1)).setCell ⟨gc,0,none⟩ (.int .i64 (rd_T98 l of).f1)).setCell ⟨gc,1,none⟩ (.int .i64 (rd_T98 l of).f0))=w1 at S1 KX ⊢
     have kge0:w1.cell? ⟨ge,0,none⟩=some (.int .i64 1):=(blk_cell S1.out.he 0).trans rfl
     have kge1:w1.cell? ⟨ge,1,none⟩=some (.int .i64 of):=(blk_cell S1.out.he 1).trans rfl
     have kge2:w1.cell? ⟨ge,2,none⟩=some (.int .i64 (-1)):=(blk_cell S1.out.he 2).trans rfl
     have kgs0:w1.cell? ⟨gs,0,none⟩=some (.bool true):=(blk_cell S1.out.hs 0).trans rfl
     have kgs1:w1.cell? ⟨gs,1,none⟩=some (.slice (some ⟨gr,0,none⟩) ss.length cr):=(blk_cell S1.out.hs 1).trans rfl
     have kgs2:w1.cell? ⟨gs,2,none⟩=some (.slice (some ⟨gb,0,none⟩) dd.length cd):=(blk_cell S1.out.hs 2).trans rfl
     have kgl0:w1.cell? ⟨gl,0,none⟩=some (.int .i64 n):=(blk_cell S1.out.hl 0).trans rfl
     have kgl1:w1.cell? ⟨gl,1,none⟩=some (.slice (some ad) l.length c):=(blk_cell S1.out.hl 1).trans rfl
     have kc0:w1.cell? ⟨gc,0,none⟩=some (.int .i64 (rd_T98 l of).f1):=(blk_cell KX.out 0).trans rfl
     have kc1:w1.cell? ⟨gc,1,none⟩=some (.int .i64 (rd_T98 l of).f0):=(blk_cell KX.out 1).trans rfl
     go_upto_region 14 with (go_at_call 74;refine (cnt_any _ _ true gs gr ss.length cr _ _ _ _ _ LR1.out S1.out.hs S1.out.H1).mono ?_;rintro e w2 ⟨rfl,hR,hg⟩;have S2:=Aside0.mk (S1.out.sec hR hg);have KY:=Aside0.mk (blk_grown KX.out hg (Kd.R_ne S1.out.H1 KX.out (by decide)));clear hR hg)
     clear kge0 kge1 kge2 kgs0 kgs1 kgs2 kgl0 kgl1
     clear kc0 kc1 S1 KX
     have kge0:w2.cell? ⟨ge,0,none⟩=some (.int .i64 1):=(blk_cell S2.out.he 0).trans rfl
     have kge1:w2.cell? ⟨ge,1,none⟩=some (.int .i64 of):=(blk_cell S2.out.he 1).trans rfl
     have kge2:w2.cell? ⟨ge,2,none⟩=some (.int .i64 (-1)):=(blk_cell S2.out.he 2).trans rfl
     have kgs0:w2.cell? ⟨gs,0,none⟩=some (.bool true):=(blk_cell S2.out.hs 0).trans rfl
     have kgs1:w2.cell? ⟨gs,1,none⟩=some (.slice (some ⟨gr,0,none⟩) ss.length cr):=(blk_cell S2.out.hs 1).trans rfl
     have kgs2:w2.cell? ⟨gs,2,none⟩=some (.slice (some ⟨gb,0,none⟩) dd.length cd):=(blk_cell S2.out.hs 2).trans rfl
     have kgl0:w2.cell? ⟨gl,0,none⟩=some (.int .i64 n):=(blk_cell S2.out.hl 0).trans rfl
     have kgl1:w2.cell? ⟨gl,1,none⟩=some (.slice (some ad) l.length c):=(blk_cell S2.out.hl 1).trans rfl
     have kc1:w2.cell? ⟨gc,1,none⟩=some (.int .i64 (rd_T98 l of).f0):=(blk_cell KY.out 1).trans rfl
     go_wp2_with (go_at_call 74;refine (cnt_any _ _ true gs gr ss.length cr _ _ _ _ _ LR0.out S2.out.hs S2.out.H1).mono ?_;rintro e w3 ⟨rfl,hR,hg⟩;have S3:=Aside0.mk (S2.out.sec hR hg);clear hR hg)
     go_meet
     case rel=>exact ⟨⟨S3.out⟩,⟨by unfold doCode;rw [if_pos (by decide),HDO.out];rfl⟩⟩
    go_upto_region 12 with (first|((with_reducible refine gate_dst (N:=9) rfl ?_);refine box_event ?hg (N:=9) ?hd (cs:=#[.int .i64 0,.int .i64 0]) (t:=98) ?hr ?_;(case hd=>rfl);(case hg=>rfl);(case hr=>first|(go_simp;done)|(go_simp;rfl));intro gc ec wb kc bc;have KC:=Aside0.mk kc;have EC:=Aside0.mk ec;have BC:=Aside0.mk bc;have zc0:=blk_frozen kc 0;have zc1:=blk_frozen kc 1;have kc0:=(blk_cell kc 0).trans (show _=some (Value.int .i64 0) from rfl);have kc1:=(blk_cell kc 1).trans (show _=some (Value.int .i64 0) from rfl);have e0:=pw_cell_below bc ce0;have e1:=pw_cell_below bc ce1;have e2:=pw_cell_below bc ce2;have ss1:=pw_cell_below bc cs1;have ss2:=pw_cell_below bc cs2;clear kc ec bc))
    have KX:=Aside0.mk (blk_put (blk_put (blk_put (blk_put KC.out 0 (.int .i64 (rd_T98 l of).f0) rfl) 1 (.int .i64 (rd_T98 l of).f1) rfl) 0 (.int .i64 (rd_T98 l of).f1) rfl) 1 (.int .i64 (rd_T98 l of).f0) rfl)
    have BX:=Aside0.mk (below_set (j:=1) (v:=(.int .i64 (rd_T98 l of).f0)) (below_set (j:=0) (v:=(.int .i64 (rd_T98 l of).f1)) (below_set (j:=1) (v:=(.int .i64 (rd_T98 l of).f1)) (below_set (j:=0) (v:=(.int .i64 (rd_T98 l of).f0)) BC.out (Nat.le_of_eq EC.out.symm)) (Nat.le_of_eq EC.out.symm)) (Nat.le_of_eq EC.out.symm)) (Nat.le_of_eq EC.out.symm))
    have S1:=Aside0.mk (SA.out.up BX.out)
    clear SA ce0 ce1 ce2 cs0 cs1 cs2 cl0 cl1 x0 xf KC BC BX zc0 zc1 kc0 kc1 e0 e1 e2 ss1 ss2 y0 y1 EC
    generalize ((((wb.setCell ⟨gc,0,none⟩ (.int .i64 (rd_T98 l of).f0)).setCell ⟨gc,1,none⟩ (.int .i64 (rd_T98 l of).f1)).setCell ⟨gc,0,none⟩ (.int .i64 (rd_T98 l of).f1)).setCell ⟨gc,1,none⟩ (.int .i64 (rd_T98 l of).f0))=w1 at S1 KX ⊢
    have kge0:w1.cell? ⟨ge,0,none⟩=some (.int .i64 2):=(blk_cell S1.out.he 0).trans rfl
    have kge1:w1.cell? ⟨ge,1,none⟩=some (.int .i64 of):=(blk_cell S1.out.he 1).trans rfl
    have kge2:w1.cell? ⟨ge,2,none⟩=some (.int .i64 (-1)):=(blk_cell S1.out.he 2).trans rfl
    have kgs0:w1.cell? ⟨gs,0,none⟩=some (.bool true):=(blk_cell S1.out.hs 0).trans rfl
    have kgs1:w1.cell? ⟨gs,1,none⟩=some (.slice (some ⟨gr,0,none⟩) ss.length cr):=(blk_cell S1.out.hs 1).trans rfl
    have kgs2:w1.cell? ⟨gs,2,none⟩=some (.slice (some ⟨gb,0,none⟩) dd.length cd):=(blk_cell S1.out.hs 2).trans rfl
    have kgl0:w1.cell? ⟨gl,0,none⟩=some (.int .i64 n):=(blk_cell S1.out.hl 0).trans rfl
    have kgl1:w1.cell? ⟨gl,1,none⟩=some (.slice (some ad) l.length c):=(blk_cell S1.out.hl 1).trans rfl
    have kc0:w1.cell? ⟨gc,0,none⟩=some (.int .i64 (rd_T98 l of).f1):=(blk_cell KX.out 0).trans rfl
    have kc1:w1.cell? ⟨gc,1,none⟩=some (.int .i64 (rd_T98 l of).f0):=(blk_cell KX.out 1).trans rfl
    go_wp2_with (go_at_call 74;refine (cnt_any _ _ true gs gr ss.length cr _ _ _ _ _ LR0.out S1.out.hs S1.out.H1).mono ?_;rintro e w3 ⟨rfl,hR,hg⟩;have S3:=Aside0.mk (S1.out.sec hR hg);clear hR hg)
    go_meet
    case rel=>exact ⟨⟨S3.out⟩,⟨by unfold doCode;rw [if_pos (by decide),HDO.out];rfl⟩⟩
   ·have lr:=lay_rd hl of ho0 ho1
    have ho2:=ho1
    rw [← hnd] at ho1
    obtain ⟨gb,cb,e,_,_,_⟩:=Kd.R_form SA.out.H2 (show 0<dd.length by omega)
    cases e
    obtain ⟨x0,xf⟩:=bool_at SA.out.H2 of ho0 ho1
    obtain ⟨ad,e,y0,y1⟩:=at_T98 HR.out of ho0 (by omega)
    subst e
    have lr0:(rd_T98 l of).f0<(ss.length:Int):=by omega
    have lr1:(rd_T98 l of).f1<(ss.length:Int):=by omega
    have LR0:=Aside0.mk lr0
    have LR1:=Aside0.mk lr1
    clear lr lr0 lr1 hl hns hnd hev hln
    have Y0:=Aside0.mk y0
    have Y1:=Aside0.mk y1
    clear y0 y1
    rcases hop with rfl|rfl
    ·go_upto_region 17 with fail
     have S1:=Aside0.mk (SA.out.dead of true)
     clear SA ce0 ce1 ce2 cs0 cs1 cs2 cl0 cl1 x0 xf
     generalize wc.setCell ⟨gb,of.toNat,none⟩ (.bool true)=w1 at S1 ⊢
     have kge0:w1.cell? ⟨ge,0,none⟩=some (.int .i64 3):=(blk_cell S1.out.he 0).trans rfl
     have kge1:w1.cell? ⟨ge,1,none⟩=some (.int .i64 of):=(blk_cell S1.out.he 1).trans rfl
     have kge2:w1.cell? ⟨ge,2,none⟩=some (.int .i64 dir):=(blk_cell S1.out.he 2).trans rfl
     have kgs0:w1.cell? ⟨gs,0,none⟩=some (.bool true):=(blk_cell S1.out.hs 0).trans rfl
     have kgs1:w1.cell? ⟨gs,1,none⟩=some (.slice (some ⟨gr,0,none⟩) ss.length cr):=(blk_cell S1.out.hs 1).trans rfl
     have kgs2:w1.cell? ⟨gs,2,none⟩=some (.slice (some ⟨gb,0,none⟩) dd.length cd):=(blk_cell S1.out.hs 2).trans rfl
     have kgl0:w1.cell? ⟨gl,0,none⟩=some (.int .i64 n):=(blk_cell S1.out.hl 0).trans rfl
     have kgl1:w1.cell? ⟨gl,1,none⟩=some (.slice (some ad) l.length c):=(blk_cell S1.out.hl 1).trans rfl
     have y0:=pw_cell_below S1.out.hB Y0.out
     have y1:=pw_cell_below S1.out.hB Y1.out
     go_upto_region 18 with (go_at_call 75;refine (lose_any _ true gs gr ss.length cr _ _ _ _ _ LR0.out S1.out.hs S1.out.H1).mono ?_;rintro e w2 ⟨rfl,hR,hg⟩;have S2:=Aside0.mk (S1.out.sec hR hg);clear hR hg)
     clear kge0 kge1 kge2 kgs0 kgs1 kgs2 kgl0 kgl1
     clear y0 y1 S1
     have kge0:w2.cell? ⟨ge,0,none⟩=some (.int .i64 3):=(blk_cell S2.out.he 0).trans rfl
     have kge1:w2.cell? ⟨ge,1,none⟩=some (.int .i64 of):=(blk_cell S2.out.he 1).trans rfl
     have kge2:w2.cell? ⟨ge,2,none⟩=some (.int .i64 dir):=(blk_cell S2.out.he 2).trans rfl
     have kgs0:w2.cell? ⟨gs,0,none⟩=some (.bool true):=(blk_cell S2.out.hs 0).trans rfl
     have kgs1:w2.cell? ⟨gs,1,none⟩=some (.slice (some ⟨gr,0,none⟩) ss.length cr):=(blk_cell S2.out.hs 1).trans rfl
     have kgs2:w2.cell? ⟨gs,2,none⟩=some (.slice (some ⟨gb,0,none⟩) dd.length cd):=(blk_cell S2.out.hs 2).trans rfl
     have kgl0:w2.cell? ⟨gl,0,none⟩=some (.int .i64 n):=(blk_cell S2.out.hl 0).trans rfl
     have kgl1:w2.cell? ⟨gl,1,none⟩=some (.slice (some ad) l.length c):=(blk_cell S2.out.hl 1).trans rfl
     have y0:=pw_cell_below S2.out.hB Y0.out
     have y1:=pw_cell_below S2.out.hB Y1.out
     go_wp2_with (go_at_call 75;refine (lose_any _ true gs gr ss.length cr _ _ _ _ _ LR1.out S2.out.hs S2.out.H1).mono ?_;rintro e w3 ⟨rfl,hR,hg⟩;have S3:=Aside0.mk (S2.out.sec hR hg);clear hR hg)
     go_meet
     case rel=>exact ⟨⟨S3.out⟩,⟨rfl⟩⟩
    go_wp2_with fail
    go_meet
    case rel=>exact ⟨⟨SA.out.dead of false⟩,⟨rfl⟩⟩
   rw [← hns] at ho1
   obtain ⟨z0,z1,z2,z3,z4,zf0,zf1,zf2,zf3,zf4⟩:=sec_at SA.out.H1 of ho0 ho1
   have hll:l.length≤1048576:=by omega
   have HLL:=Aside0.mk hll
   have HND:=Aside0.mk hnd
   have HO0:=Aside0.mk ho0
   have HO1:=Aside0.mk ho1
   clear hl hns hnd hev hln hll z0 z1 z2 z3 z4 zf0 zf1 zf2 zf3 zf4
   rcases Bool.eq_false_or_eq_true (deadAt l dd of) with hdo|hdo
   ·have HDO:=Aside0.mk hdo
    clear hdo
    have HC2:=Aside0.mk (show doCode l ss dd 5 of=3 by unfold doCode;rw [if_neg (by decide),if_pos rfl,if_pos HDO.out])
    go_upto_region 23 with (go_at_call 76;refine (dead_at of HDO.out (Kd.C_below HR.out SA.out.hB) hc (Kd.R_reads' SA.out.H1).2.2 (Kd.R_reads' SA.out.H1).2.1 (Kd.R_reads' SA.out.H2).2.2 (Kd.R_reads' SA.out.H2).2.1 HLL.out HND.out).mono ?_;rintro e w1 ⟨rfl,hb⟩;have S1:=Aside0.mk (SA.out.up hb);clear hb)
    clear ce0 ce1 ce2 cs0 cs1 cs2 cl0 cl1 SA
    have kge0:w1.cell? ⟨ge,0,none⟩=some (.int .i64 5):=(blk_cell S1.out.he 0).trans rfl
    have kge1:w1.cell? ⟨ge,1,none⟩=some (.int .i64 of):=(blk_cell S1.out.he 1).trans rfl
    have kge2:w1.cell? ⟨ge,2,none⟩=some (.int .i64 dir):=(blk_cell S1.out.he 2).trans rfl
    have kgs0:w1.cell? ⟨gs,0,none⟩=some (.bool true):=(blk_cell S1.out.hs 0).trans rfl
    have kgs1:w1.cell? ⟨gs,1,none⟩=some (.slice (some ⟨gr,0,none⟩) ss.length cr):=(blk_cell S1.out.hs 1).trans rfl
    have kgs2:w1.cell? ⟨gs,2,none⟩=some (.slice Ad dd.length cd):=(blk_cell S1.out.hs 2).trans rfl
    have kgl0:w1.cell? ⟨gl,0,none⟩=some (.int .i64 n):=(blk_cell S1.out.hl 0).trans rfl
    have kgl1:w1.cell? ⟨gl,1,none⟩=some (.slice A l.length c):=(blk_cell S1.out.hl 1).trans rfl
    have kd0:w1.cell? ⟨gd,0,none⟩=some (.int .i64 0):=(blk_cell S1.out.hd 0).trans rfl
    have kz0:=blk_frozen S1.out.hd 0
    have kd1:w1.cell? ⟨gd,1,none⟩=some (.bool false):=(blk_cell S1.out.hd 1).trans rfl
    have kz1:=blk_frozen S1.out.hd 1
    have kd2:w1.cell? ⟨gd,2,none⟩=some (.slice none 0 0):=(blk_cell S1.out.hd 2).trans rfl
    have kz2:=blk_frozen S1.out.hd 2
    have kd3:w1.cell? ⟨gd,3,none⟩=some (.slice none 0 0):=(blk_cell S1.out.hd 3).trans rfl
    have kz3:=blk_frozen S1.out.hd 3
    go_wp2_with fail
    have SF:=S1.out.fill (y0:=.int .i64 3) (y1:=.bool true) (y2:=(.slice (some ⟨gr,0,none⟩) ss.length cr)) (y3:=(.slice Ad dd.length cd))
    refine bodyPost_ret (results_cell_row rfl _ _ gd 85 _ (0,0) _ rfl SF.hd Tryd.underlying85 rfl (by kernel_rfl)) rfl ⟨_,_,by rw [HC2.out],?_,?_,SF.hB⟩
    ·unfold doSecs;rw [HC2.out];exact SF.H1
    unfold doDead;rw [HC2.out];exact SF.H2
   have HDO:=Aside0.mk hdo
   clear hdo
   go_upto_region 24 with (go_at_call 76;refine (dead_at of HDO.out (Kd.C_below HR.out SA.out.hB) hc (Kd.R_reads' SA.out.H1).2.2 (Kd.R_reads' SA.out.H1).2.1 (Kd.R_reads' SA.out.H2).2.2 (Kd.R_reads' SA.out.H2).2.1 HLL.out HND.out).mono ?_;rintro e w1 ⟨rfl,hb⟩;have S1:=Aside0.mk (SA.out.up hb);clear hb)
   clear ce0 ce1 ce2 cs0 cs1 cs2 cl0 cl1 SA
   have kge0:w1.cell? ⟨ge,0,none⟩=some (.int .i64 5):=(blk_cell S1.out.he 0).trans rfl
   have kge1:w1.cell? ⟨ge,1,none⟩=some (.int .i64 of):=(blk_cell S1.out.he 1).trans rfl
   have kge2:w1.cell? ⟨ge,2,none⟩=some (.int .i64 dir):=(blk_cell S1.out.he 2).trans rfl
   have kgs0:w1.cell? ⟨gs,0,none⟩=some (.bool true):=(blk_cell S1.out.hs 0).trans rfl
   have kgs1:w1.cell? ⟨gs,1,none⟩=some (.slice (some ⟨gr,0,none⟩) ss.length cr):=(blk_cell S1.out.hs 1).trans rfl
   have kgs2:w1.cell? ⟨gs,2,none⟩=some (.slice Ad dd.length cd):=(blk_cell S1.out.hs 2).trans rfl
   have kgl0:w1.cell? ⟨gl,0,none⟩=some (.int .i64 n):=(blk_cell S1.out.hl 0).trans rfl
   have kgl1:w1.cell? ⟨gl,1,none⟩=some (.slice A l.length c):=(blk_cell S1.out.hl 1).trans rfl
   have ho0:=HO0.out
   have ho1:=HO1.out
   obtain ⟨z0,z1,z2,z3,z4,zf0,zf1,zf2,zf3,zf4⟩:=sec_at S1.out.H1 of ho0 ho1
   by_cases hla:(rd_T87 ss of).f4=1
   ·have hla1:((rd_T87 ss of).f4==1)=true:=beq_iff_eq.mpr hla
    have HC2:=Aside0.mk (show doCode l ss dd 5 of=4 by unfold doCode;rw [if_neg (by decide),if_pos rfl,HDO.out,if_neg (by decide),if_pos hla])
    clear hla
    have kd0:w1.cell? ⟨gd,0,none⟩=some (.int .i64 0):=(blk_cell S1.out.hd 0).trans rfl
    have kz0:=blk_frozen S1.out.hd 0
    have kd1:w1.cell? ⟨gd,1,none⟩=some (.bool false):=(blk_cell S1.out.hd 1).trans rfl
    have kz1:=blk_frozen S1.out.hd 1
    have kd2:w1.cell? ⟨gd,2,none⟩=some (.slice none 0 0):=(blk_cell S1.out.hd 2).trans rfl
    have kz2:=blk_frozen S1.out.hd 2
    have kd3:w1.cell? ⟨gd,3,none⟩=some (.slice none 0 0):=(blk_cell S1.out.hd 3).trans rfl
    have kz3:=blk_frozen S1.out.hd 3
    go_wp2_with fail
    have SF:=S1.out.fill (y0:=.int .i64 4) (y1:=.bool true) (y2:=(.slice (some ⟨gr,0,none⟩) ss.length cr)) (y3:=(.slice Ad dd.length cd))
    refine bodyPost_ret (results_cell_row rfl _ _ gd 85 _ (0,0) _ rfl SF.hd Tryd.underlying85 rfl (by kernel_rfl)) rfl ⟨_,_,by rw [HC2.out],?_,?_,SF.hB⟩
    ·unfold doSecs;rw [HC2.out];exact SF.H1
    unfold doDead;rw [HC2.out];exact SF.H2
   have hla1:((rd_T87 ss of).f4==1)=false:=beq_eq_false_iff_ne.mpr hla
   have HC2:=Aside0.mk (show doCode l ss dd 5 of=0 by unfold doCode;rw [if_neg (by decide),if_pos rfl,HDO.out,if_neg (by decide),if_neg hla])
   clear hla
   go_wp2_with fail
   go_meet
   case rel =>
    obtain ⟨hR,hg⟩:=((((SecSt.start S1.out.H1 HO0.out HO1.out).put0 HO0.out HO1.out (u:=0) rfl).put1 HO0.out HO1.out (u:=0) rfl).put2 HO0.out HO1.out (u:=false) rfl |>.put3 HO0.out HO1.out (u:=true) rfl).put4 HO0.out HO1.out (u:=0) rfl
    exact ⟨⟨S1.out.sec hR hg⟩,HC2⟩
  case rest =>
   obtain ⟨SM,HC0⟩:=hcut
   have HLM:=Aside0.mk (midSecs_length l ss op of dir)
   have HLD:=Aside0.mk (midDead_length dd op of)
   have HDS:=Aside0.mk (show retold l (midDead dd op of) (midSecs l ss op of dir)=doSecs l ss dd op of dir by unfold doSecs;rw [if_pos HC0.out])
   have HDD:=Aside0.mk (show midDead dd op of=doDead l ss dd op of by unfold doDead;rw [if_pos HC0.out])
   clear SA ce0 ce1 ce2 cs0 cs1 cs2 cl0 cl1
   generalize midSecs l ss op of dir=ms at SM HLM HDS
   generalize midDead dd op of=md at SM HLD HDS HDD
   have kge0:wc.cell? ⟨ge,0,none⟩=some (.int .i64 op):=(blk_cell SM.out.he 0).trans rfl
   have kge1:wc.cell? ⟨ge,1,none⟩=some (.int .i64 of):=(blk_cell SM.out.he 1).trans rfl
   have kge2:wc.cell? ⟨ge,2,none⟩=some (.int .i64 dir):=(blk_cell SM.out.he 2).trans rfl
   have kgs0:wc.cell? ⟨gs,0,none⟩=some (.bool true):=(blk_cell SM.out.hs 0).trans rfl
   have kgs1:wc.cell? ⟨gs,1,none⟩=some (.slice (some ⟨gr,0,none⟩) ss.length cr):=(blk_cell SM.out.hs 1).trans rfl
   have kgs2:wc.cell? ⟨gs,2,none⟩=some (.slice Ad dd.length cd):=(blk_cell SM.out.hs 2).trans rfl
   have kgl0:wc.cell? ⟨gl,0,none⟩=some (.int .i64 n):=(blk_cell SM.out.hl 0).trans rfl
   have kgl1:wc.cell? ⟨gl,1,none⟩=some (.slice A l.length c):=(blk_cell SM.out.hl 1).trans rfl
   go_wp2_with fail
   go_loopg [119] ss.length (fun kq v w'=>∃ j:Nat,v=.int .i64 j∧Aside0 (j+kq=ss.length)∧Aside0 (DoSt w w' gl gs ge gd [.int .i64 n,.slice A l.length c] [.bool true,.slice (some ⟨gr,0,none⟩) ss.length cr,.slice Ad dd.length cd] [.int .i64 op,.int .i64 of,.int .i64 dir] [.int .i64 0,.bool false,.slice none 0 0,.slice none 0 0] (.slice (some ⟨gr,0,none⟩) ss.length cr) (.slice Ad dd.length cd) (retoldTo l md ms j) md))
   case atStart=>exact ⟨0,rfl,⟨by omega⟩,⟨by rw [retoldTo_zero];exact SM.out⟩⟩
   case round =>
    obtain ⟨j,rfl,HJ,SL⟩:=hrel
    clear kge0 kge1 kge2 kgs0 kgs1 kgs2 kgl0 kgl1
    clear SM
    by_cases hlt:j<ss.length
    ·cases gk with
     | zero=>exact absurd HJ.out (by omega)
     | succ gk =>
      have hlt':decide ((j:Int)<(ss.length:Int))=true:=decide_eq_true (by omega)
      have q0:(0:Int)≤(j:Int):=by omega
      have q1:(j:Int)<(ss.length:Int):=by omega
      have q2:ss.length≤60:=by have:=lay_n HN.out.1;have:=HN.out.2.1;omega
      go_upto_block 2 with fail
      go_cut [11] from 121 to 130 (fun v11 wx=>Aside0 (DoSt w wx gl gs ge gd [.int .i64 n,.slice A l.length c] [.bool true,.slice (some ⟨gr,0,none⟩) ss.length cr,.slice Ad dd.length cd] [.int .i64 op,.int .i64 of,.int .i64 dir] [.int .i64 0,.bool false,.slice none 0 0,.slice none 0 0] (.slice (some ⟨gr,0,none⟩) ss.length cr) (.slice Ad dd.length cd) (retoldTo l md ms (j+1)) md))
      case first =>
       have HLL:=Aside0.mk (show l.length≤1048576 by have:=lay_n HN.out.1;omega)
       have HML:=Aside0.mk (show md.length=l.length by rw [HLD.out];exact HN.out.2.2.1)
       have n1:gr ≠ gs:=fun e=>Kd.R_ne SL.out.H1 SL.out.hs (by decide) (by rw [e];rfl)
       have n2:gr ≠ gl:=fun e=>Kd.R_ne SL.out.H1 SL.out.hl (by decide) (by rw [e];rfl)
       have kgs0:wr.cell? ⟨gs,0,none⟩=some (.bool true):=(blk_cell SL.out.hs 0).trans rfl
       have kgs1:wr.cell? ⟨gs,1,none⟩=some (.slice (some ⟨gr,0,none⟩) ss.length cr):=(blk_cell SL.out.hs 1).trans rfl
       have kgs2:wr.cell? ⟨gs,2,none⟩=some (.slice Ad dd.length cd):=(blk_cell SL.out.hs 2).trans rfl
       have kgl0:wr.cell? ⟨gl,0,none⟩=some (.int .i64 n):=(blk_cell SL.out.hl 0).trans rfl
       have kgl1:wr.cell? ⟨gl,1,none⟩=some (.slice A l.length c):=(blk_cell SL.out.hl 1).trans rfl
       have SD:=Aside0.mk (SL.out.up (below_drew1 (Below.refl _ _)))
       have hln:ss.length=(retoldTo l md ms j).length:=by rw [retoldTo_length,HLM.out]
       have HLN:=Aside0.mk hln
       have HLM2:=Aside0.mk (show dd.length=md.length from HLD.out.symm)
       clear hln
       go_upto_region 31 with fail
       go_region_held3 (fun w'=>w'.cell? ⟨gl,0,none⟩=some (.int .i64 n)∧w'.cell? ⟨gl,1,none⟩=some (.slice A l.length c)∧w'.cell? ⟨gs,0,none⟩=some (.bool true)∧w'.cell? ⟨gs,1,none⟩=some (.slice (some ⟨gr,0,none⟩) ss.length cr)∧w'.cell? ⟨gs,2,none⟩=some (.slice Ad dd.length cd))
        (first|go_keep|(go_split_ands;(repeat' apply And.intro) <;> (refine pw_cell_below hb ?_;assumption))|(go_split_ands;(repeat' apply And.intro) <;> (rw [World.cell?_setCell_far _ _ _ _ (by assumption)];assumption)))
        (first|(go_at_call 77;refine (told_of (j:Int) (Kd.C_below HR.out SD.out.hB) hc SD.out.H1 SD.out.H2 HLN.out HLM2.out HLL.out HML.out q0 q1).mono ?_;rintro e w' ⟨rfl,hb⟩;have S2:=Aside0.mk (SD.out.up hb);obtain ⟨z0,z1,z2,z3,z4,zf0,zf1,zf2,zf3,zf4⟩:=sec_at S2.out.H1 (j:Int) q0 q1;rw [Int.toNat_natCast] at z0 zf0;clear z1 z2 z3 z4 zf1 zf2 zf3 zf4))
       all_goals (go_wp2_with fail;go_meet)
       obtain ⟨hR,hg⟩:=(SecSt.start S2.out.H1 q0 q1).put0 q0 q1 (u:=toldC l md (j:Int) (rd_T87 (retoldTo l md ms j) (j:Int))) (show j * 5=(j:Int).toNat * 5+0 by rw [Int.toNat_natCast,Nat.add_zero])
       rw [retold_step l md ms j (by rw [HLM.out];exact hlt)] at hR
       exact ⟨S2.out.sec hR hg⟩
      case rest =>
       go_wp2_with fail
       go_roundg gk
       case measure=>omega
       case rel=>exact ⟨j+1,by go_num,⟨by have:=HJ.out;omega⟩,hcut⟩
    have hlt':decide ((j:Int)<(ss.length:Int))=false:=decide_eq_false (by omega)
    have hj:j=ss.length:=by have:=HJ.out;omega
    have hre:retoldTo l md ms j=retold l md ms:=by rw [retold,HLM.out,hj]
    have SF0:=Aside0.mk (show DoSt w wr gl gs ge gd [.int .i64 n,.slice A l.length c] [.bool true,.slice (some ⟨gr,0,none⟩) ss.length cr,.slice Ad dd.length cd] [.int .i64 op,.int .i64 of,.int .i64 dir] [.int .i64 0,.bool false,.slice none 0 0,.slice none 0 0] (.slice (some ⟨gr,0,none⟩) ss.length cr) (.slice Ad dd.length cd) (doSecs l ss dd op of dir) (doDead l ss dd op of) by rw [← HDS.out,← HDD.out,← hre];exact SL.out)
    clear hj hre SL
    have kgs0:wr.cell? ⟨gs,0,none⟩=some (.bool true):=(blk_cell SF0.out.hs 0).trans rfl
    have kgs1:wr.cell? ⟨gs,1,none⟩=some (.slice (some ⟨gr,0,none⟩) ss.length cr):=(blk_cell SF0.out.hs 1).trans rfl
    have kgs2:wr.cell? ⟨gs,2,none⟩=some (.slice Ad dd.length cd):=(blk_cell SF0.out.hs 2).trans rfl
    have kd0:wr.cell? ⟨gd,0,none⟩=some (.int .i64 0):=(blk_cell SF0.out.hd 0).trans rfl
    have kz0:=blk_frozen SF0.out.hd 0
    have kd1:wr.cell? ⟨gd,1,none⟩=some (.bool false):=(blk_cell SF0.out.hd 1).trans rfl
    have kz1:=blk_frozen SF0.out.hd 1
    have kd2:wr.cell? ⟨gd,2,none⟩=some (.slice none 0 0):=(blk_cell SF0.out.hd 2).trans rfl
    have kz2:=blk_frozen SF0.out.hd 2
    have kd3:wr.cell? ⟨gd,3,none⟩=some (.slice none 0 0):=(blk_cell SF0.out.hd 3).trans rfl
    have kz3:=blk_frozen SF0.out.hd 3
    go_wp2_with fail
    have SF:=SF0.out.fill (y0:=.int .i64 0) (y1:=.bool true) (y2:=(.slice (some ⟨gr,0,none⟩) ss.length cr)) (y3:=(.slice Ad dd.length cd))
    exact bodyPost_ret (results_cell_row rfl _ _ gd 85 _ (0,0) _ rfl SF.hd Tryd.underlying85 rfl (by kernel_rfl)) rfl ⟨_,_,by rw [HC0.out],SF.H1,SF.H2,SF.hB⟩
end Go.Proofs.YtpdnabhpkdchjaaDoor.P
namespace Go.Proofs.YtpdnabhpkdchjaaDoor.P
open Go.RowKit Go.Proofs.YtpdnabhpkdchjaaDoorW.PrintWords Go.Proofs.YtpdnabhpkdchjaaDoorW.PrintLast Go.Proofs.YtpdnabhpkdchjaaDoorW.PrintMore
attribute [local go_sem] max2_int min2_int max_two min_two max_three min_three max_four min_four
set_option linter.unusedVariables false
set_option linter.unusedSimpArgs false
def spec_Begin.f (k:Nat) (a0_0:Int) (l0_1:List (S98)):Option (Bool × (List (S87)) × List Bool):=(spec_LayoutOk.f k a0_0 l0_1).bind fun t320=>(if t320=0 then (if 0≤a0_0 then (if (a0_0:Int).toNat≤8796093022208 then (if 0≤(l0_1.length:Int) then (if ((l0_1.length:Int):Int).toNat≤281474976710656 then (some (true,(List.replicate (a0_0:Int).toNat z87),(List.replicate ((l0_1.length:Int):Int).toNat false))) else (none)) else (none)) else (none)) else (none)) else (some (false,([]:List (S87)),([]:List Bool))))
def spec_Begin.T3:Bool × List (List Nat × List Nat):=(true,[([],[]),([0],[0]),([1,1],[1]),([],[]),([3],[3]),([4],[4]),([5,5],[5]),([2,6],[2,6]),([7,0,1,2,3,4,5,6,7],[7])])
def spec_Begin.B3:List Nat:=[0,1,3,0,8,24,56,127,255]
theorem spec_Begin.tab3:rtab .any (opsOf Tryd.f58 3)=spec_Begin.T3:=by kernel_rfl
theorem spec_Begin.bits3:waitsOk spec_Begin.T3.2 spec_Begin.B3=true:=by kernel_rfl
set_option maxHeartbeats 8000000 in
set_option maxRecDepth 100000 in
theorem spec_Begin.calls (k:Nat) (a0_0:Int) (A0_1:Option Addr) (c0_1:Nat) (l0_1:List (S98)) (r1:Bool) (r2:List (S87)) (r3:List Bool) (w:World) (hr0_1:Kd.C k98 w A0_1 l0_1.length l0_1) (hc0_1:l0_1.length≤c0_1) (h:spec_Begin.f k a0_0 l0_1=some (r1,r2,r3)) :
  Calls Tryd.prog 58 #[.agg #[.int .i64 a0_0,.slice A0_1 l0_1.length c0_1]] w fun e w'=>∃ v1_ v2_:Value,e=.returned (.agg #[.bool r1,v1_,v2_])∧Kd.R k87 87 w' w.heap.size (fun _=>True) v1_ r2∧Kd.R Kd.bool 4 w' w.heap.size (fun _=>True) v2_ r3∧Below w.heap.size w w':=by
 have hu31:=Tryd.underlying31
 have hu83:=Tryd.underlying83
 have HR0_1:=Aside0.mk hr0_1
 have HC0_1:=Aside0.mk hc0_1
 clear hr0_1 hc0_1
 have HB:=Aside0.mk (Below.refl w.heap.size w)
 have H:((spec_LayoutOk.f k a0_0 l0_1).bind fun t320=>(if t320=0 then (if 0≤a0_0 then (if (a0_0:Int).toNat≤8796093022208 then (if 0≤(l0_1.length:Int) then (if ((l0_1.length:Int):Int).toNat≤281474976710656 then (some (true,(List.replicate (a0_0:Int).toNat z87),(List.replicate ((l0_1.length:Int):Int).toNat false))) else (none)) else (none)) else (none)) else (none)) else (some (false,([]:List (S87)),([]:List Bool)))))=some (r1,r2,r3):=h
 clear h
 replace H:=Option.bind_eq_some_iff.mp H
 obtain ⟨t320,A20,H⟩:=H
 replace H:(if t320=0 then (if 0≤a0_0 then (if (a0_0:Int).toNat≤8796093022208 then (if 0≤(l0_1.length:Int) then (if ((l0_1.length:Int):Int).toNat≤281474976710656 then (some (true,(List.replicate (a0_0:Int).toNat z87),(List.replicate ((l0_1.length:Int):Int).toNat false))) else (none)) else (none)) else (none)) else (none)) else (some (false,([]:List (S87)),([]:List Bool))))=some (r1,r2,r3):=H
 have A2:=Aside0.mk A20
 clear A20
 by_cases c3:t320=0
 ·rw [if_pos c3] at H
  have c3b0:(t320==0)=true:=beq_iff_eq.mpr c3
  have c3b1:(t320 != 0)=false:=bne_eq_false_iff_eq.mpr c3
  clear c3
  by_cases c4:0≤a0_0
  ·rw [if_pos c4] at H
   have c4b0:=eq_true c4
   have c4b1:decide (0≤a0_0)=true:=decide_eq_true c4
   clear c4
   by_cases c5:(a0_0:Int).toNat≤8796093022208
   ·rw [if_pos c5] at H
    have c5b0:=eq_true c5
    have c5b1:decide ((a0_0:Int).toNat≤8796093022208)=true:=decide_eq_true c5
    clear c5
    obtain ⟨y321,hy321⟩:∃ y_:List (S87),y_=(List.replicate (a0_0:Int).toNat z87):=⟨_,rfl⟩
    replace H:(if 0≤(l0_1.length:Int) then (if ((l0_1.length:Int):Int).toNat≤281474976710656 then (some (true,y321,(List.replicate ((l0_1.length:Int):Int).toNat false))) else (none)) else (none))=some (r1,r2,r3):=by first|(rw [hy321];with_reducible exact H)|(have H2_:=(Option.bind_some _ _).symm.trans H;rw [hy321];with_reducible exact H2_)|(have H2_:=(Option.bind_some _ _).symm.trans H;with_reducible exact H2_)|with_reducible exact H|(rw [hy321];exact H)|exact H
    have Ny321:=Aside0.mk hy321
    clear hy321
    by_cases c6:0≤(l0_1.length:Int)
    ·rw [if_pos c6] at H
     have c6b0:=eq_true c6
     have c6b1:decide (0≤(l0_1.length:Int))=true:=decide_eq_true c6
     clear c6
     by_cases c7:((l0_1.length:Int):Int).toNat≤281474976710656
     ·rw [if_pos c7] at H
      have c7b0:=eq_true c7
      have c7b1:decide (((l0_1.length:Int):Int).toNat≤281474976710656)=true:=decide_eq_true c7
      clear c7
      obtain ⟨y324,hy324⟩:∃ y_:List Bool,y_=(List.replicate ((l0_1.length:Int):Int).toNat false):=⟨_,rfl⟩
      replace H:(some (true,y321,y324))=some (r1,r2,r3):=by first|(rw [hy324];with_reducible exact H)|(have H2_:=(Option.bind_some _ _).symm.trans H;rw [hy324];with_reducible exact H2_)|(have H2_:=(Option.bind_some _ _).symm.trans H;with_reducible exact H2_)|with_reducible exact H|(rw [hy324];exact H)|exact H
      have Ny324:=Aside0.mk hy324
      clear hy324
      simp only [Option.some.injEq,Prod.mk.injEq] at H
      obtain ⟨rfl,rfl,rfl⟩:=H
      go_enter Tryd.func58,Tryd.ntmps58
      try go_wp2_with (first|((with_reducible refine gate_dst (N:=1) rfl ?_);refine box_event ?hg (N:=1) ?hd (cs:=#[.int .i64 a0_0,.slice A0_1 l0_1.length c0_1]) (t:=31) ?hr ?_;(case hd=>rfl);(case hg=>rfl);(case hr=>first|(go_simp;done)|(go_simp;rfl));intro gb318 hg w8 hbox hb;have n0_:=Aside0.mk (below_step (by exact HB.out) hb);have n1_:=Aside0.mk (hbox);have n2_:=Aside0.mk ((by rw [hg];exact (below_size (by exact HB.out)):w.heap.size≤gb318));have n3_:=Aside0.mk ((by rw [hg];exact (below_size (by exact HB.out)):w.heap.size≤gb318));clear HB;have HB:=n0_;have BK318:=n1_;have GW318:=n2_;have GE318:=n3_;clear n0_ n1_ n2_ n3_;clear hb hbox hg)|((with_reducible refine gate_dst (N:=2) rfl ?_);refine box_event ?hg (N:=2) ?hd (cs:=#[.bool false,.slice none 0 0,.slice none 0 0]) (t:=83) ?hr ?_;(case hd=>rfl);(case hg=>rfl);(case hr=>first|(go_simp;done)|(go_simp;rfl));intro gb319 hg w9 hbox hb;have n0_:=Aside0.mk (blk_below (g:=gb318) (o:=.cells #[.int .i64 a0_0,.slice A0_1 l0_1.length c0_1] 31 (0,0)) (by exact BK318.out) hb);have n1_:=Aside0.mk (below_step (by exact HB.out) hb);have n2_:=Aside0.mk (hbox);have n3_:=Aside0.mk ((by rw [hg];exact (below_size (by exact HB.out)):w.heap.size≤gb319));have n4_:=Aside0.mk ((by rw [hg];exact (below_size (by exact HB.out)):w.heap.size≤gb319));have n5_:=Aside0.mk ((by rw [hg];exact Nat.ne_of_lt (blk_lt (g:=gb318) (o:=.cells #[.int .i64 a0_0,.slice A0_1 l0_1.length c0_1] 31 (0,0)) (by exact BK318.out)):gb318 ≠ gb319));have n6_:=Aside0.mk ((by rw [hg];exact Nat.ne_of_gt (blk_lt (g:=gb318) (o:=.cells #[.int .i64 a0_0,.slice A0_1 l0_1.length c0_1] 31 (0,0)) (by exact BK318.out)):gb319 ≠ gb318));clear BK318;clear HB;have BK318:=n0_;have HB:=n1_;have BK319:=n2_;have GW319:=n3_;have GE319:=n4_;have NB318_319:=n5_;have NB319_318:=n6_;clear n0_ n1_ n2_ n3_ n4_ n5_ n6_;clear hb hbox hg;have hnb10:=NB318_319.out;have hnc10:=NB319_318.out;have hcz11_0:w9.cell? ⟨gb318,0,none⟩=some (.int .i64 a0_0):=(blk_cell BK318.out 0).trans rfl;have hcz11_1:w9.cell? ⟨gb318,1,none⟩=some (.slice A0_1 l0_1.length c0_1):=(blk_cell BK318.out 1).trans rfl;have hfz11_0:=blk_frozen BK318.out 0;have hfz11_1:=blk_frozen BK318.out 1)|((with_reducible refine gate_callee (f:=38) rfl ?_);refine goesL_ (some 4) rfl rfl Tryd.func38 (by kernel_rfl) rfl #[.agg #[.int .i64 a0_0,.slice A0_1 l0_1.length c0_1]] rfl (by (try simp only [List.map_toArray,List.map_cons,List.map_nil]);first|done|rfl|(simp only [List.length_drop,List.length_take];rfl)) ?_;(with_reducible refine (spec_LayoutOk.calls k a0_0 _ _ l0_1 t320 _ ?side1 ?side2 A2.out).mono ?_);(case side1=>repeat (first|exact (Kd.C_below HR0_1.out HB.out)|(with_reducible refine Kd.C_alloc ?_ _)|(with_reducible refine Kd.C_drewN ?_ _)|(with_reducible refine Kd.C_drew ?_)));(case side2=>exact HC0_1.out);rintro e w12 ⟨rfl,hb⟩;refine ⟨_,rfl,?_⟩;have n0_:=Aside0.mk (blk_below (g:=gb318) (o:=.cells #[.int .i64 a0_0,.slice A0_1 l0_1.length c0_1] 31 (0,0)) (by exact BK318.out) hb);have n1_:=Aside0.mk (blk_below (g:=gb319) (o:=.cells #[.bool false,.slice none 0 0,.slice none 0 0] 83 (0,0)) (by exact BK319.out) hb);have n2_:=Aside0.mk (below_step (by exact HB.out) hb);clear BK318;clear BK319;clear HB;have BK318:=n0_;have BK319:=n1_;have HB:=n2_;clear n0_ n1_ n2_;(try clear hb);(try clear hb2);(try clear hk);(try clear hi)))
      have n0_:=Aside0.mk (blk_drew BK318.out)
      have n1_:=Aside0.mk (blk_drew BK319.out)
      have n2_:=Aside0.mk (below_drew1 HB.out)
      clear BK318
      clear BK319
      clear HB
      have BK318:=n0_
      have BK319:=n1_
      have HB:=n2_
      clear n0_ n1_ n2_
      refine start_ (n:=9) (S:=fun w'=>w'.cell? ⟨gb318,0,none⟩=some (.int .i64 a0_0)∧w'.cell? ⟨gb318,1,none⟩=some (.slice A0_1 l0_1.length c0_1)) (ds:=[]) #[false,false,false,false,false,false,false,false,false] (by kernel_rfl) rfl rfl ⟨(blk_cell BK318.out 0).trans rfl,(blk_cell BK318.out 1).trans rfl⟩ (fun hHeld=>?_);refine with_tabW spec_Begin.tab3 spec_Begin.bits3 (fun HT_ HW_=>?_)
      generalize w12.drew=w13 at BK318 BK319 HB hHeld ⊢
      refine pure_ (i:=0) (N:=some 7) (v:=?_) (a':=?_) #[true,false,false,false,false,false,false,false,false] rfl rfl (any_of HT_.out (by kernel_rfl)) (fun _ _ _ h=>h) (Or.inl ⟨by rfl,?_⟩) ?_ ?_
      rotate_left
      ·intro w'
       go_simp
       with_reducible rfl
      rotate_left
      ·simp only [Act.put,List.setIfInBounds_toArray,List.set_cons_zero,List.set_cons_succ,i64_w,i32_w]
       rfl
      refine pure_ (i:=3) (N:=some 10) (v:=?_) (a':=?_) #[true,false,false,true,false,false,false,false,false] rfl rfl (any_of HT_.out (by kernel_rfl)) (fun _ _ _ h=>h) (Or.inl ⟨by rfl,?_⟩) ?_ ?_
      rotate_left
      ·intro w'
       go_simp
       with_reducible rfl
      rotate_left
      ·simp only [Act.put,List.setIfInBounds_toArray,List.set_cons_zero,List.set_cons_succ,i64_w,i32_w]
       rfl
      refine take_ (i:=1) (N:=some 8) (v:=?_) (a':=?_) #[true,true,false,true,false,false,false,false,false] rfl rfl (take_ofW HT_.out HW_.out (by kernel_rfl)) (fun _ _ _ h=>h) (Or.inl ⟨by rfl,?_⟩) hHeld ?_ ?_
      rotate_left
      ·rintro w' ⟨s0,s1⟩
       go_simp
       with_reducible rfl
      rotate_left
      ·simp only [Act.put,List.setIfInBounds_toArray,List.set_cons_zero,List.set_cons_succ,i64_w,i32_w]
       rfl
      refine take_ (i:=4) (N:=some 11) (v:=?_) (a':=?_) #[true,true,false,true,true,false,false,false,false] rfl rfl (take_ofW HT_.out HW_.out (by kernel_rfl)) (fun _ _ _ h=>h) (Or.inl ⟨by rfl,?_⟩) hHeld ?_ ?_
      rotate_left
      ·rintro w' ⟨s0,s1⟩
       go_simp
       with_reducible rfl
      rotate_left
      ·simp only [Act.put,List.setIfInBounds_toArray,List.set_cons_zero,List.set_cons_succ,i64_w,i32_w]
       rfl
      refine pure_ (i:=5) (N:=some 12) (v:=?_) (a':=?_) #[true,true,false,true,true,true,false,false,false] rfl rfl (any_of HT_.out (by kernel_rfl)) (fun _ _ _ h=>h) (Or.inl ⟨by rfl,?_⟩) ?_ ?_
      rotate_left
      ·intro w'
       go_simp
       with_reducible rfl
      rotate_left
      ·simp only [Act.put,List.setIfInBounds_toArray,List.set_cons_zero,List.set_cons_succ,i64_w,i32_w]
       rfl
      refine join_ (σ:=Value × Value) 2 #[true,true,true,true,true,true,true,false,false] (fun s_=>[(9,s_.1),(13,s_.2)]) (fun s_ w'=>(w'.cell? ⟨gb318,0,none⟩=some (.int .i64 a0_0)∧w'.cell? ⟨gb318,1,none⟩=some (.slice A0_1 l0_1.length c0_1))∧(Kd.R k87 87 w' w.heap.size (fun _=>True) s_.1 y321)∧(Kd.R Kd.bool 4 w' w.heap.size (fun _=>True) s_.2 y324)∧(w'.heap[gb318]?=some (.cells #[.int .i64 a0_0,.slice A0_1 l0_1.length c0_1] 31 (0,0)))∧(w'.heap[gb319]?=some (.cells #[.bool false,.slice none 0 0,.slice none 0 0] 83 (0,0)))∧(Below w.heap.size w w')) ?_ ?_
      rotate_left
      ·intro hCont
       refine two_ (i:=2) (j:=6) (Ni:=some 9) (Nj:=some 13) #[true,true,true,true,true,true,false,false,false] #[true,true,false,true,true,true,true,false,false] rfl rfl rfl rfl (two_of HT_.out (by kernel_rfl)) (by decide) (by decide) (fun K hK=>?_) (fun K hK=>?_)
       ·skip
        refine Kd.R_make_step k87 _ 87 (by rfl) (N:=9) rfl 80 _ _ rfl a0_0 rfl rfl Tryd.underlying80 (.agg #[(.int .i64 0),(.int .i64 0),(.bool false),(.bool false),(.int .i64 0)]) 32 info87 rfl (by decide) (by omega) z87 (ok:=fun _=>True) (okp:=fun _=>True) (k87_mkM _ _ _ z87 ) (fun _ hk=>hk) trivial (of_decide_eq_true (by first|(with_reducible assumption)|assumption)) (Nat.le_trans (Nat.mul_le_mul_right _ (of_decide_eq_true (by first|(with_reducible assumption)|assumption):a0_0.toNat≤8796093022208)) (by omega)) (Below.refl _ _) (Nat.le_refl _) ?_
        intro v322 w14 ho15 hb hg_ hnew_
        clear hg_ hnew_
        (first|rw [← Ny321.out] at ho15|(simp only [Int.reduceToNat] at ho15;rw [← Ny321.out] at ho15))
        have n0_:=Aside0.mk (Kd.R_lower ho15 (below_size (by exact HB.out)))
        have n1_:=Aside0.mk (blk_below (g:=gb318) (o:=.cells #[.int .i64 a0_0,.slice A0_1 l0_1.length c0_1] 31 (0,0)) (by exact BK318.out) hb)
        have n2_:=Aside0.mk (blk_below (g:=gb319) (o:=.cells #[.bool false,.slice none 0 0,.slice none 0 0] 83 (0,0)) (by exact BK319.out) hb)
        have n3_:=Aside0.mk (below_step (by exact HB.out) hb)
        clear BK318
        clear BK319
        clear HB
        have HO323:=n0_
        have BK318:=n1_
        have BK319:=n2_
        have HB:=n3_
        clear n0_ n1_ n2_ n3_
        clear hb ho15
        refine hK.out _ _ ⟨(blk_cell BK318.out 0).trans rfl,(blk_cell BK318.out 1).trans rfl⟩ (fun hHeld=>?_)
        clear hK K
        refine norm_ (a':=?_) ?_ ?_
        rotate_left
        ·show Act.put _ (some 9) _=_
         simp only [Act.put,List.setIfInBounds_toArray,List.set_cons_zero,List.set_cons_succ,i64_w,i32_w]
         rfl
        refine one_ (i:=6) (N:=some 13) #[true,true,true,true,true,true,true,false,false] rfl rfl (one_of HT_.out (by kernel_rfl)) (by decide) (fun K hK=>?_)
        refine Kd.R_make_step Kd.bool _ 4 (by rfl) (N:=13) rfl 81 _ _ rfl (l0_1.length:Int) rfl rfl Tryd.underlying81 (.bool false) 1 info4 rfl (by decide) (by omega) false (ok:=fun _=>True) (okp:=fun _=>True) rfl (fun _ hk=>hk) trivial (of_decide_eq_true (by first|(with_reducible assumption)|assumption)) (Nat.le_trans (Nat.mul_le_mul_right _ (of_decide_eq_true (by first|(with_reducible assumption)|assumption):(l0_1.length:Int).toNat≤281474976710656)) (by omega)) (Below.refl _ _) (Nat.le_refl _) ?_
        intro v325 w16 ho17 hb hg_ hnew_
        clear hg_ hnew_
        (first|rw [← Ny324.out] at ho17|(simp only [Int.reduceToNat] at ho17;rw [← Ny324.out] at ho17))
        have n0_:=Aside0.mk (Kd.R_below (by exact HO323.out) hb)
        have n1_:=Aside0.mk (Kd.R_lower ho17 (below_size (by exact HB.out)))
        have n2_:=Aside0.mk (blk_below (g:=gb318) (o:=.cells #[.int .i64 a0_0,.slice A0_1 l0_1.length c0_1] 31 (0,0)) (by exact BK318.out) hb)
        have n3_:=Aside0.mk (blk_below (g:=gb319) (o:=.cells #[.bool false,.slice none 0 0,.slice none 0 0] 83 (0,0)) (by exact BK319.out) hb)
        have n4_:=Aside0.mk (below_step (by exact HB.out) hb)
        clear HO323
        clear BK318
        clear BK319
        clear HB
        have HO323:=n0_
        have HO326:=n1_
        have BK318:=n2_
        have BK319:=n3_
        have HB:=n4_
        clear n0_ n1_ n2_ n3_ n4_
        clear hb ho17
        obtain ⟨Ao18,co18,eo18⟩:=Kd.R_slice HO326.out
        (first|subst eo18|(injection eo18 with f1_ f2_ f3_;have f4_:=f1_.symm;have f5_:=f3_.symm;clear f1_ f2_ f3_;subst f4_;subst f5_))
        obtain ⟨Ao19,co19,eo19⟩:=Kd.R_slice HO323.out
        (first|subst eo19|(injection eo19 with f1_ f2_ f3_;have f4_:=f1_.symm;have f5_:=f3_.symm;clear f1_ f2_ f3_;subst f4_;subst f5_))
        refine hK.out _ _ ⟨(blk_cell BK318.out 0).trans rfl,(blk_cell BK318.out 1).trans rfl⟩ (fun hHeld=>?_)
        clear hK K
        refine norm_ (a':=?_) ?_ ?_
        rotate_left
        ·show Act.put _ (some 13) _=_
         simp only [Act.put,List.setIfInBounds_toArray,List.set_cons_zero,List.set_cons_succ,i64_w,i32_w]
         rfl
        exact norm_ (by simp only [putAll,Act.put,List.setIfInBounds_toArray,List.set_cons_zero,List.set_cons_succ]) (hCont (.slice Ao19 y321.length co19,.slice Ao18 y324.length co18) _ ⟨hHeld,(by exact HO323.out),(by exact HO326.out),(by exact BK318.out),(by exact BK319.out),(by exact HB.out)⟩)
       skip
       refine Kd.R_make_step Kd.bool _ 4 (by rfl) (N:=13) rfl 81 _ _ rfl (l0_1.length:Int) rfl rfl Tryd.underlying81 (.bool false) 1 info4 rfl (by decide) (by omega) false (ok:=fun _=>True) (okp:=fun _=>True) rfl (fun _ hk=>hk) trivial (of_decide_eq_true (by first|(with_reducible assumption)|assumption)) (Nat.le_trans (Nat.mul_le_mul_right _ (of_decide_eq_true (by first|(with_reducible assumption)|assumption):(l0_1.length:Int).toNat≤281474976710656)) (by omega)) (Below.refl _ _) (Nat.le_refl _) ?_
       intro v325 w14 ho15 hb hg_ hnew_
       clear hg_ hnew_
       (first|rw [← Ny324.out] at ho15|(simp only [Int.reduceToNat] at ho15;rw [← Ny324.out] at ho15))
       have n0_:=Aside0.mk (Kd.R_lower ho15 (below_size (by exact HB.out)))
       have n1_:=Aside0.mk (blk_below (g:=gb318) (o:=.cells #[.int .i64 a0_0,.slice A0_1 l0_1.length c0_1] 31 (0,0)) (by exact BK318.out) hb)
       have n2_:=Aside0.mk (blk_below (g:=gb319) (o:=.cells #[.bool false,.slice none 0 0,.slice none 0 0] 83 (0,0)) (by exact BK319.out) hb)
       have n3_:=Aside0.mk (below_step (by exact HB.out) hb)
       clear BK318
       clear BK319
       clear HB
       have HO326:=n0_
       have BK318:=n1_
       have BK319:=n2_
       have HB:=n3_
       clear n0_ n1_ n2_ n3_
       clear hb ho15
       refine hK.out _ _ ⟨(blk_cell BK318.out 0).trans rfl,(blk_cell BK318.out 1).trans rfl⟩ (fun hHeld=>?_)
       clear hK K
       refine norm_ (a':=?_) ?_ ?_
       rotate_left
       ·show Act.put _ (some 13) _=_
        simp only [Act.put,List.setIfInBounds_toArray,List.set_cons_zero,List.set_cons_succ,i64_w,i32_w]
        rfl
       refine one_ (i:=2) (N:=some 9) #[true,true,true,true,true,true,true,false,false] rfl rfl (one_of HT_.out (by kernel_rfl)) (by decide) (fun K hK=>?_)
       refine Kd.R_make_step k87 _ 87 (by rfl) (N:=9) rfl 80 _ _ rfl a0_0 rfl rfl Tryd.underlying80 (.agg #[(.int .i64 0),(.int .i64 0),(.bool false),(.bool false),(.int .i64 0)]) 32 info87 rfl (by decide) (by omega) z87 (ok:=fun _=>True) (okp:=fun _=>True) (k87_mkM _ _ _ z87 ) (fun _ hk=>hk) trivial (of_decide_eq_true (by first|(with_reducible assumption)|assumption)) (Nat.le_trans (Nat.mul_le_mul_right _ (of_decide_eq_true (by first|(with_reducible assumption)|assumption):a0_0.toNat≤8796093022208)) (by omega)) (Below.refl _ _) (Nat.le_refl _) ?_
       intro v322 w16 ho17 hb hg_ hnew_
       clear hg_ hnew_
       (first|rw [← Ny321.out] at ho17|(simp only [Int.reduceToNat] at ho17;rw [← Ny321.out] at ho17))
       have n0_:=Aside0.mk (Kd.R_below (by exact HO326.out) hb)
       have n1_:=Aside0.mk (Kd.R_lower ho17 (below_size (by exact HB.out)))
       have n2_:=Aside0.mk (blk_below (g:=gb318) (o:=.cells #[.int .i64 a0_0,.slice A0_1 l0_1.length c0_1] 31 (0,0)) (by exact BK318.out) hb)
       have n3_:=Aside0.mk (blk_below (g:=gb319) (o:=.cells #[.bool false,.slice none 0 0,.slice none 0 0] 83 (0,0)) (by exact BK319.out) hb)
       have n4_:=Aside0.mk (below_step (by exact HB.out) hb)
       clear HO326
       clear BK318
       clear BK319
       clear HB
       have HO326:=n0_
       have HO323:=n1_
       have BK318:=n2_
       have BK319:=n3_
       have HB:=n4_
       clear n0_ n1_ n2_ n3_ n4_
       clear hb ho17
       obtain ⟨Ao18,co18,eo18⟩:=Kd.R_slice HO326.out
       (first|subst eo18|(injection eo18 with f1_ f2_ f3_;have f4_:=f1_.symm;have f5_:=f3_.symm;clear f1_ f2_ f3_;subst f4_;subst f5_))
       obtain ⟨Ao19,co19,eo19⟩:=Kd.R_slice HO323.out
       (first|subst eo19|(injection eo19 with f1_ f2_ f3_;have f4_:=f1_.symm;have f5_:=f3_.symm;clear f1_ f2_ f3_;subst f4_;subst f5_))
       refine hK.out _ _ ⟨(blk_cell BK318.out 0).trans rfl,(blk_cell BK318.out 1).trans rfl⟩ (fun hHeld=>?_)
       clear hK K
       refine norm_ (a':=?_) ?_ ?_
       rotate_left
       ·show Act.put _ (some 9) _=_
        simp only [Act.put,List.setIfInBounds_toArray,List.set_cons_zero,List.set_cons_succ,i64_w,i32_w]
        rfl
       exact norm_ (by simp only [putAll,Act.put,List.setIfInBounds_toArray,List.set_cons_zero,List.set_cons_succ]) (hCont (.slice Ao19 y321.length co19,.slice Ao18 y324.length co18) _ ⟨hHeld,(by exact HO323.out),(by exact HO326.out),(by exact BK318.out),(by exact BK319.out),(by exact HB.out)⟩)
      rintro ⟨v322,v325⟩ w20 ⟨hS_,h0_,h1_,h2_,h3_,h4_⟩
      have n0_:Aside0 (Kd.R k87 87 w20 w.heap.size (fun _=>True) v322 y321):=⟨h0_⟩
      have n1_:Aside0 (Kd.R Kd.bool 4 w20 w.heap.size (fun _=>True) v325 y324):=⟨h1_⟩
      have n2_:Aside0 (w20.heap[gb318]?=some (.cells #[.int .i64 a0_0,.slice A0_1 l0_1.length c0_1] 31 (0,0))):=⟨h2_⟩
      have n3_:Aside0 (w20.heap[gb319]?=some (.cells #[.bool false,.slice none 0 0,.slice none 0 0] 83 (0,0))):=⟨h3_⟩
      have n4_:Aside0 (Below w.heap.size w w20):=⟨h4_⟩
      clear BK318
      clear BK319
      clear HB
      clear h0_ h1_ h2_ h3_ h4_
      have HO323:=n0_
      have HO326:=n1_
      have BK318:=n2_
      have BK319:=n3_
      have HB:=n4_
      clear n0_ n1_ n2_ n3_ n4_
      have hHeld:w20.cell? ⟨gb318,0,none⟩=some (.int .i64 a0_0)∧w20.cell? ⟨gb318,1,none⟩=some (.slice A0_1 l0_1.length c0_1):=hS_
      obtain ⟨Ao21,co21,eo21⟩:=Kd.R_slice HO326.out
      (first|subst eo21|(injection eo21 with f1_ f2_ f3_;have f4_:=f1_.symm;have f5_:=f3_.symm;clear f1_ f2_ f3_;subst f4_;subst f5_))
      obtain ⟨Ao22,co22,eo22⟩:=Kd.R_slice HO323.out
      (first|subst eo22|(injection eo22 with f1_ f2_ f3_;have f4_:=f1_.symm;have f5_:=f3_.symm;clear f1_ f2_ f3_;subst f4_;subst f5_))
      refine norm_ (a':=?_) ?_ ?_
      rotate_left
      ·simp only [putAll,Act.put,List.setIfInBounds_toArray,List.set_cons_zero,List.set_cons_succ]
       rfl
      refine pure_ (i:=7) (N:=some 14) (v:=?_) (a':=?_) #[true,true,true,true,true,true,true,true,false] rfl rfl (any_of HT_.out (by kernel_rfl)) (fun _ _ _ h=>h) (Or.inl ⟨by rfl,?_⟩) ?_ ?_
      rotate_left
      ·intro w'
       go_simp
       with_reducible rfl
      rotate_left
      ·simp only [Act.put,List.setIfInBounds_toArray,List.set_cons_zero,List.set_cons_succ,i64_w,i32_w]
       rfl
      refine one_ (i:=8) (N:=none) #[true,true,true,true,true,true,true,true,true] rfl rfl (one_of HT_.out (by kernel_rfl)) (by decide) (fun K hK=>?_)
      have hs23:w20.cell? ⟨gb319,0,none⟩=some (.bool false):=(blk_cell BK319.out 0).trans rfl
      have hfs23:=blk_frozen BK319.out 0
      have hns23_0:=NB318_319.out
      have hms23_0:=NB319_318.out
      have hs24:w20.cell? ⟨gb319,1,none⟩=some (.slice none 0 0):=(blk_cell BK319.out 1).trans rfl
      have hfs24:=blk_frozen BK319.out 1
      have hns24_0:=NB318_319.out
      have hms24_0:=NB319_318.out
      have hs25:w20.cell? ⟨gb319,2,none⟩=some (.slice none 0 0):=(blk_cell BK319.out 2).trans rfl
      have hfs25:=blk_frozen BK319.out 2
      have hns25_0:=NB318_319.out
      have hms25_0:=NB319_318.out
      refine skip_ (w1:=?_) (by rfl) rfl ?_ ?_
      rotate_left
      ·go_simp
       rfl
      refine hK.out _ _ ⟨((cell_far (p:=⟨gb319,_,none⟩) NB318_319.out _).trans (((cell_far (p:=⟨gb319,_,none⟩) NB318_319.out _).trans (((cell_far (p:=⟨gb319,_,none⟩) NB318_319.out _).trans (hHeld.1)))))),((cell_far (p:=⟨gb319,_,none⟩) NB318_319.out _).trans (((cell_far (p:=⟨gb319,_,none⟩) NB318_319.out _).trans (((cell_far (p:=⟨gb319,_,none⟩) NB318_319.out _).trans (hHeld.2))))))⟩ (fun hHeld=>?_)
      clear hK K
      refine done_ (done_of HT_.out (by kernel_rfl)) ?_
      try go_wp2
      refine bodyPost_ret (results_cell_row rfl _ _ gb319 83 #[.bool true,.slice Ao22 y321.length co22,.slice Ao21 y324.length co21] (0,0) _ rfl (by refine blk_put (cs:=#[.bool true,.slice Ao22 y321.length co22,.slice none 0 0]) ?_ 2 _ rfl;refine blk_put (cs:=#[.bool true,.slice none 0 0,.slice none 0 0]) ?_ 1 _ rfl;refine blk_put (cs:=#[.bool false,.slice none 0 0,.slice none 0 0]) ?_ 0 _ rfl;exact BK319.out) Tryd.underlying83 rfl (by kernel_rfl)) rfl ?_
      exact ⟨_,_,by first|rfl|(simp [errW_none,errW_some] <;> rfl)|(simp [*,errW_none,errW_some] <;> rfl),by (with_reducible repeat (first|apply Kd.R_alloc|apply Kd.R_drewN|apply Kd.R_drew));exact Kd.R_mono (Kd.R_far (p:=⟨gb319,2,none⟩) (Kd.R_far (p:=⟨gb319,1,none⟩) (Kd.R_far (p:=⟨gb319,0,none⟩) (Kd.R_types HO323.out BK319.out (by decide)) (fun _ hk=>hk.2) (.bool true)) (fun _ hk=>hk.2) (.slice Ao22 y321.length co22)) (fun _ hk=>hk.2) (.slice Ao21 y324.length co21)) (fun _ hk=>trivial),by (with_reducible repeat (first|apply Kd.R_alloc|apply Kd.R_drewN|apply Kd.R_drew));exact Kd.R_mono (Kd.R_far (p:=⟨gb319,2,none⟩) (Kd.R_far (p:=⟨gb319,1,none⟩) (Kd.R_far (p:=⟨gb319,0,none⟩) (Kd.R_types HO326.out BK319.out (by decide)) (fun _ hk=>hk.2) (.bool true)) (fun _ hk=>hk.2) (.slice Ao22 y321.length co22)) (fun _ hk=>hk.2) (.slice Ao21 y324.length co21)) (fun _ hk=>trivial),by repeat (first|(with_reducible first|exact HB.out|apply below_alloc|apply pw_below_drewN|apply below_drew1|refine below_set ?_ GE318.out|refine below_set ?_ GE319.out)|exact HB.out)⟩
     rw [if_neg c7] at H
     exact absurd H (by simp)
    rw [if_neg c6] at H
    exact absurd H (by simp)
   rw [if_neg c5] at H
   exact absurd H (by simp)
  rw [if_neg c4] at H
  exact absurd H (by simp)
 rw [if_neg c3] at H
 have c3b0:(t320==0)=false:=beq_eq_false_iff_ne.mpr c3
 have c3b1:(t320 != 0)=true:=bne_iff_ne.mpr c3
 simp only [Option.some.injEq,Prod.mk.injEq] at H
 obtain ⟨rfl,rfl,rfl⟩:=H
 go_enter Tryd.func58,Tryd.ntmps58
 go_wp2_with (first|((with_reducible refine gate_dst (N:=1) rfl ?_);refine box_event ?hg (N:=1) ?hd (cs:=#[.int .i64 a0_0,.slice A0_1 l0_1.length c0_1]) (t:=31) ?hr ?_;(case hd=>rfl);(case hg=>rfl);(case hr=>first|(go_simp;done)|(go_simp;rfl));intro gb318 hg w26 hbox hb;have n0_:=Aside0.mk (below_step (by exact HB.out) hb);have n1_:=Aside0.mk (hbox);have n2_:=Aside0.mk ((by rw [hg];exact (below_size (by exact HB.out)):w.heap.size≤gb318));have n3_:=Aside0.mk ((by rw [hg];exact (below_size (by exact HB.out)):w.heap.size≤gb318));clear HB;have HB:=n0_;have BK318:=n1_;have GW318:=n2_;have GE318:=n3_;clear n0_ n1_ n2_ n3_;clear hb hbox hg)|((with_reducible refine gate_dst (N:=2) rfl ?_);refine box_event ?hg (N:=2) ?hd (cs:=#[.bool false,.slice none 0 0,.slice none 0 0]) (t:=83) ?hr ?_;(case hd=>rfl);(case hg=>rfl);(case hr=>first|(go_simp;done)|(go_simp;rfl));intro gb319 hg w27 hbox hb;have n0_:=Aside0.mk (blk_below (g:=gb318) (o:=.cells #[.int .i64 a0_0,.slice A0_1 l0_1.length c0_1] 31 (0,0)) (by exact BK318.out) hb);have n1_:=Aside0.mk (below_step (by exact HB.out) hb);have n2_:=Aside0.mk (hbox);have n3_:=Aside0.mk ((by rw [hg];exact (below_size (by exact HB.out)):w.heap.size≤gb319));have n4_:=Aside0.mk ((by rw [hg];exact (below_size (by exact HB.out)):w.heap.size≤gb319));have n5_:=Aside0.mk ((by rw [hg];exact Nat.ne_of_lt (blk_lt (g:=gb318) (o:=.cells #[.int .i64 a0_0,.slice A0_1 l0_1.length c0_1] 31 (0,0)) (by exact BK318.out)):gb318 ≠ gb319));have n6_:=Aside0.mk ((by rw [hg];exact Nat.ne_of_gt (blk_lt (g:=gb318) (o:=.cells #[.int .i64 a0_0,.slice A0_1 l0_1.length c0_1] 31 (0,0)) (by exact BK318.out)):gb319 ≠ gb318));clear BK318;clear HB;have BK318:=n0_;have HB:=n1_;have BK319:=n2_;have GW319:=n3_;have GE319:=n4_;have NB318_319:=n5_;have NB319_318:=n6_;clear n0_ n1_ n2_ n3_ n4_ n5_ n6_;clear hb hbox hg;have hnb28:=NB318_319.out;have hnc28:=NB319_318.out;have hcz29_0:w27.cell? ⟨gb318,0,none⟩=some (.int .i64 a0_0):=(blk_cell BK318.out 0).trans rfl;have hcz29_1:w27.cell? ⟨gb318,1,none⟩=some (.slice A0_1 l0_1.length c0_1):=(blk_cell BK318.out 1).trans rfl;have hfz29_0:=blk_frozen BK318.out 0;have hfz29_1:=blk_frozen BK318.out 1)|((with_reducible refine gate_callee (f:=38) rfl ?_);refine goesL_ (some 4) rfl rfl Tryd.func38 (by kernel_rfl) rfl #[.agg #[.int .i64 a0_0,.slice A0_1 l0_1.length c0_1]] rfl (by (try simp only [List.map_toArray,List.map_cons,List.map_nil]);first|done|rfl|(simp only [List.length_drop,List.length_take];rfl)) ?_;(with_reducible refine (spec_LayoutOk.calls k a0_0 _ _ l0_1 t320 _ ?side1 ?side2 A2.out).mono ?_);(case side1=>repeat (first|exact (Kd.C_below HR0_1.out HB.out)|(with_reducible refine Kd.C_alloc ?_ _)|(with_reducible refine Kd.C_drewN ?_ _)|(with_reducible refine Kd.C_drew ?_)));(case side2=>exact HC0_1.out);rintro e w30 ⟨rfl,hb⟩;refine ⟨_,rfl,?_⟩;have n0_:=Aside0.mk (blk_below (g:=gb318) (o:=.cells #[.int .i64 a0_0,.slice A0_1 l0_1.length c0_1] 31 (0,0)) (by exact BK318.out) hb);have n1_:=Aside0.mk (blk_below (g:=gb319) (o:=.cells #[.bool false,.slice none 0 0,.slice none 0 0] 83 (0,0)) (by exact BK319.out) hb);have n2_:=Aside0.mk (below_step (by exact HB.out) hb);clear BK318;clear BK319;clear HB;have BK318:=n0_;have BK319:=n1_;have HB:=n2_;clear n0_ n1_ n2_;(try clear hb);(try clear hb2);(try clear hk);(try clear hi);have hcz31_0:w30.cell? ⟨gb319,0,none⟩=some (.bool false):=(blk_cell BK319.out 0).trans rfl;have hcz31_1:w30.cell? ⟨gb319,1,none⟩=some (.slice none 0 0):=(blk_cell BK319.out 1).trans rfl;have hcz31_2:w30.cell? ⟨gb319,2,none⟩=some (.slice none 0 0):=(blk_cell BK319.out 2).trans rfl;have hfz31_0:=blk_frozen BK319.out 0;have hfz31_1:=blk_frozen BK319.out 1;have hfz31_2:=blk_frozen BK319.out 2))
 refine bodyPost_ret (results_cell_row rfl _ _ gb319 83 #[.bool false,.slice none 0 0,.slice none 0 0] (0,0) _ rfl (by refine blk_put (cs:=#[.bool false,.slice none 0 0,.slice none 0 0]) ?_ 2 _ rfl;refine blk_put (cs:=#[.bool false,.slice none 0 0,.slice none 0 0]) ?_ 1 _ rfl;refine blk_put (cs:=#[.bool false,.slice none 0 0,.slice none 0 0]) ?_ 0 _ rfl;exact BK319.out) Tryd.underlying83 rfl (by kernel_rfl)) rfl ?_
 exact ⟨_,_,by first|rfl|(simp [errW_none,errW_some] <;> rfl)|(simp [*,errW_none,errW_some] <;> rfl),by first|exact Kd.R_nil _ _ _ _ _|exact Kd.N_nil _ _ _ _ _|exact Kd.V_nil _ _ _ _ _|exact Kd.Q_nil _ _ _ _ _|exact Kd.S_nil _ _ _ _ _,by first|exact Kd.R_nil _ _ _ _ _|exact Kd.N_nil _ _ _ _ _|exact Kd.V_nil _ _ _ _ _|exact Kd.Q_nil _ _ _ _ _|exact Kd.S_nil _ _ _ _ _,by repeat (first|(with_reducible first|exact HB.out|apply below_alloc|apply pw_below_drewN|apply below_drew1|refine below_set ?_ GE318.out|refine below_set ?_ GE319.out)|exact HB.out)⟩
end Go.Proofs.YtpdnabhpkdchjaaDoor.P
namespace Go.Proofs.YtpdnabhpkdchjaaDoor.P
open Go.RowKit Go.Proofs.YtpdnabhpkdchjaaDoorW.PrintWords Go.Proofs.YtpdnabhpkdchjaaDoorW.PrintLast Go.Proofs.YtpdnabhpkdchjaaDoorW.PrintMore
attribute [local go_sem] max2_int min2_int max_two min_two max_three min_three max_four min_four
set_option linter.unusedVariables false
set_option linter.unusedSimpArgs false
def impl_Begin.f (a0_0:Int) (l0_1:List (S98)):Option (Bool × (List (S87)) × List Bool):=(impl_LayoutOk.f a0_0 l0_1).bind fun t384=>(if t384=0 then (if 0≤a0_0 then (if (a0_0:Int).toNat≤8796093022208 then (if 0≤(l0_1.length:Int) then (if ((l0_1.length:Int):Int).toNat≤281474976710656 then (some (true,(List.replicate (a0_0:Int).toNat z87),(List.replicate ((l0_1.length:Int):Int).toNat false))) else (none)) else (none)) else (none)) else (none)) else (some (false,([]:List (S87)),([]:List Bool))))
def impl_Begin.T3:Bool × List (List Nat × List Nat):=(true,[([],[]),([0],[0]),([1,1],[1]),([],[]),([3],[3]),([4],[4]),([5,5],[5]),([2,6],[2,6]),([7,0,1,2,3,4,5,6,7],[7])])
def impl_Begin.B3:List Nat:=[0,1,3,0,8,24,56,127,255]
theorem impl_Begin.tab3:rtab .any (opsOf Tryd.f62 3)=impl_Begin.T3:=by kernel_rfl
theorem impl_Begin.bits3:waitsOk impl_Begin.T3.2 impl_Begin.B3=true:=by kernel_rfl
set_option maxHeartbeats 8000000 in
set_option maxRecDepth 100000 in
theorem impl_Begin.calls (a0_0:Int) (A0_1:Option Addr) (c0_1:Nat) (l0_1:List (S98)) (r1:Bool) (r2:List (S87)) (r3:List Bool) (w:World) (hr0_1:Kd.C k98 w A0_1 l0_1.length l0_1) (hc0_1:l0_1.length≤c0_1) (h:impl_Begin.f a0_0 l0_1=some (r1,r2,r3)) :
  Calls Tryd.prog 62 #[.agg #[.int .i64 a0_0,.slice A0_1 l0_1.length c0_1]] w fun e w'=>∃ v1_ v2_:Value,e=.returned (.agg #[.bool r1,v1_,v2_])∧Kd.R k87 87 w' w.heap.size (fun _=>True) v1_ r2∧Kd.R Kd.bool 4 w' w.heap.size (fun _=>True) v2_ r3∧Below w.heap.size w w':=by
 have hu31:=Tryd.underlying31
 have hu83:=Tryd.underlying83
 have HR0_1:=Aside0.mk hr0_1
 have HC0_1:=Aside0.mk hc0_1
 clear hr0_1 hc0_1
 have HB:=Aside0.mk (Below.refl w.heap.size w)
 have H:((impl_LayoutOk.f a0_0 l0_1).bind fun t384=>(if t384=0 then (if 0≤a0_0 then (if (a0_0:Int).toNat≤8796093022208 then (if 0≤(l0_1.length:Int) then (if ((l0_1.length:Int):Int).toNat≤281474976710656 then (some (true,(List.replicate (a0_0:Int).toNat z87),(List.replicate ((l0_1.length:Int):Int).toNat false))) else (none)) else (none)) else (none)) else (none)) else (some (false,([]:List (S87)),([]:List Bool)))))=some (r1,r2,r3):=h
 clear h
 replace H:=Option.bind_eq_some_iff.mp H
 obtain ⟨t384,A20,H⟩:=H
 replace H:(if t384=0 then (if 0≤a0_0 then (if (a0_0:Int).toNat≤8796093022208 then (if 0≤(l0_1.length:Int) then (if ((l0_1.length:Int):Int).toNat≤281474976710656 then (some (true,(List.replicate (a0_0:Int).toNat z87),(List.replicate ((l0_1.length:Int):Int).toNat false))) else (none)) else (none)) else (none)) else (none)) else (some (false,([]:List (S87)),([]:List Bool))))=some (r1,r2,r3):=H
 have A2:=Aside0.mk A20
 clear A20
 by_cases c3:t384=0
 ·rw [if_pos c3] at H
  have c3b0:(t384==0)=true:=beq_iff_eq.mpr c3
  have c3b1:(t384 != 0)=false:=bne_eq_false_iff_eq.mpr c3
  clear c3
  by_cases c4:0≤a0_0
  ·rw [if_pos c4] at H
   have c4b0:=eq_true c4
   have c4b1:decide (0≤a0_0)=true:=decide_eq_true c4
   clear c4
   by_cases c5:(a0_0:Int).toNat≤8796093022208
   ·rw [if_pos c5] at H
    have c5b0:=eq_true c5
    have c5b1:decide ((a0_0:Int).toNat≤8796093022208)=true:=decide_eq_true c5
    clear c5
    obtain ⟨y385,hy385⟩:∃ y_:List (S87),y_=(List.replicate (a0_0:Int).toNat z87):=⟨_,rfl⟩
    replace H:(if 0≤(l0_1.length:Int) then (if ((l0_1.length:Int):Int).toNat≤281474976710656 then (some (true,y385,(List.replicate ((l0_1.length:Int):Int).toNat false))) else (none)) else (none))=some (r1,r2,r3):=by first|(rw [hy385];with_reducible exact H)|(have H2_:=(Option.bind_some _ _).symm.trans H;rw [hy385];with_reducible exact H2_)|(have H2_:=(Option.bind_some _ _).symm.trans H;with_reducible exact H2_)|with_reducible exact H|(rw [hy385];exact H)|exact H
    have Ny385:=Aside0.mk hy385
    clear hy385
    by_cases c6:0≤(l0_1.length:Int)
    ·rw [if_pos c6] at H
     have c6b0:=eq_true c6
     have c6b1:decide (0≤(l0_1.length:Int))=true:=decide_eq_true c6
     clear c6
     by_cases c7:((l0_1.length:Int):Int).toNat≤281474976710656
     ·rw [if_pos c7] at H
      have c7b0:=eq_true c7
      have c7b1:decide (((l0_1.length:Int):Int).toNat≤281474976710656)=true:=decide_eq_true c7
      clear c7
      obtain ⟨y388,hy388⟩:∃ y_:List Bool,y_=(List.replicate ((l0_1.length:Int):Int).toNat false):=⟨_,rfl⟩
      replace H:(some (true,y385,y388))=some (r1,r2,r3):=by first|(rw [hy388];with_reducible exact H)|(have H2_:=(Option.bind_some _ _).symm.trans H;rw [hy388];with_reducible exact H2_)|(have H2_:=(Option.bind_some _ _).symm.trans H;with_reducible exact H2_)|with_reducible exact H|(rw [hy388];exact H)|exact H
      have Ny388:=Aside0.mk hy388
      clear hy388
      simp only [Option.some.injEq,Prod.mk.injEq] at H
      obtain ⟨rfl,rfl,rfl⟩:=H
      go_enter Tryd.func62,Tryd.ntmps62
      try go_wp2_with (first|((with_reducible refine gate_dst (N:=1) rfl ?_);refine box_event ?hg (N:=1) ?hd (cs:=#[.int .i64 a0_0,.slice A0_1 l0_1.length c0_1]) (t:=31) ?hr ?_;(case hd=>rfl);(case hg=>rfl);(case hr=>first|(go_simp;done)|(go_simp;rfl));intro gb382 hg w8 hbox hb;have n0_:=Aside0.mk (below_step (by exact HB.out) hb);have n1_:=Aside0.mk (hbox);have n2_:=Aside0.mk ((by rw [hg];exact (below_size (by exact HB.out)):w.heap.size≤gb382));have n3_:=Aside0.mk ((by rw [hg];exact (below_size (by exact HB.out)):w.heap.size≤gb382));clear HB;have HB:=n0_;have BK382:=n1_;have GW382:=n2_;have GE382:=n3_;clear n0_ n1_ n2_ n3_;clear hb hbox hg)|((with_reducible refine gate_dst (N:=2) rfl ?_);refine box_event ?hg (N:=2) ?hd (cs:=#[.bool false,.slice none 0 0,.slice none 0 0]) (t:=83) ?hr ?_;(case hd=>rfl);(case hg=>rfl);(case hr=>first|(go_simp;done)|(go_simp;rfl));intro gb383 hg w9 hbox hb;have n0_:=Aside0.mk (blk_below (g:=gb382) (o:=.cells #[.int .i64 a0_0,.slice A0_1 l0_1.length c0_1] 31 (0,0)) (by exact BK382.out) hb);have n1_:=Aside0.mk (below_step (by exact HB.out) hb);have n2_:=Aside0.mk (hbox);have n3_:=Aside0.mk ((by rw [hg];exact (below_size (by exact HB.out)):w.heap.size≤gb383));have n4_:=Aside0.mk ((by rw [hg];exact (below_size (by exact HB.out)):w.heap.size≤gb383));have n5_:=Aside0.mk ((by rw [hg];exact Nat.ne_of_lt (blk_lt (g:=gb382) (o:=.cells #[.int .i64 a0_0,.slice A0_1 l0_1.length c0_1] 31 (0,0)) (by exact BK382.out)):gb382 ≠ gb383));have n6_:=Aside0.mk ((by rw [hg];exact Nat.ne_of_gt (blk_lt (g:=gb382) (o:=.cells #[.int .i64 a0_0,.slice A0_1 l0_1.length c0_1] 31 (0,0)) (by exact BK382.out)):gb383 ≠ gb382));clear BK382;clear HB;have BK382:=n0_;have HB:=n1_;have BK383:=n2_;have GW383:=n3_;have GE383:=n4_;have NB382_383:=n5_;have NB383_382:=n6_;clear n0_ n1_ n2_ n3_ n4_ n5_ n6_;clear hb hbox hg;have hnb10:=NB382_383.out;have hnc10:=NB383_382.out;have hcz11_0:w9.cell? ⟨gb382,0,none⟩=some (.int .i64 a0_0):=(blk_cell BK382.out 0).trans rfl;have hcz11_1:w9.cell? ⟨gb382,1,none⟩=some (.slice A0_1 l0_1.length c0_1):=(blk_cell BK382.out 1).trans rfl;have hfz11_0:=blk_frozen BK382.out 0;have hfz11_1:=blk_frozen BK382.out 1)|((with_reducible refine gate_callee (f:=30) rfl ?_);refine goesL_ (some 4) rfl rfl Tryd.func30 (by kernel_rfl) rfl #[.agg #[.int .i64 a0_0,.slice A0_1 l0_1.length c0_1]] rfl (by (try simp only [List.map_toArray,List.map_cons,List.map_nil]);first|done|rfl|(simp only [List.length_drop,List.length_take];rfl)) ?_;(with_reducible refine (impl_LayoutOk.calls a0_0 _ _ l0_1 t384 _ ?side1 ?side2 A2.out).mono ?_);(case side1=>repeat (first|exact (Kd.C_below HR0_1.out HB.out)|(with_reducible refine Kd.C_alloc ?_ _)|(with_reducible refine Kd.C_drewN ?_ _)|(with_reducible refine Kd.C_drew ?_)));(case side2=>exact HC0_1.out);rintro e w12 ⟨rfl,hb⟩;refine ⟨_,rfl,?_⟩;have n0_:=Aside0.mk (blk_below (g:=gb382) (o:=.cells #[.int .i64 a0_0,.slice A0_1 l0_1.length c0_1] 31 (0,0)) (by exact BK382.out) hb);have n1_:=Aside0.mk (blk_below (g:=gb383) (o:=.cells #[.bool false,.slice none 0 0,.slice none 0 0] 83 (0,0)) (by exact BK383.out) hb);have n2_:=Aside0.mk (below_step (by exact HB.out) hb);clear BK382;clear BK383;clear HB;have BK382:=n0_;have BK383:=n1_;have HB:=n2_;clear n0_ n1_ n2_;(try clear hb);(try clear hb2);(try clear hk);(try clear hi)))
      have n0_:=Aside0.mk (blk_drew BK382.out)
      have n1_:=Aside0.mk (blk_drew BK383.out)
      have n2_:=Aside0.mk (below_drew1 HB.out)
      clear BK382
      clear BK383
      clear HB
      have BK382:=n0_
      have BK383:=n1_
      have HB:=n2_
      clear n0_ n1_ n2_
      refine start_ (n:=9) (S:=fun w'=>w'.cell? ⟨gb382,0,none⟩=some (.int .i64 a0_0)∧w'.cell? ⟨gb382,1,none⟩=some (.slice A0_1 l0_1.length c0_1)) (ds:=[]) #[false,false,false,false,false,false,false,false,false] (by kernel_rfl) rfl rfl ⟨(blk_cell BK382.out 0).trans rfl,(blk_cell BK382.out 1).trans rfl⟩ (fun hHeld=>?_);refine with_tabW impl_Begin.tab3 impl_Begin.bits3 (fun HT_ HW_=>?_)
      generalize w12.drew=w13 at BK382 BK383 HB hHeld ⊢
      refine pure_ (i:=0) (N:=some 7) (v:=?_) (a':=?_) #[true,false,false,false,false,false,false,false,false] rfl rfl (any_of HT_.out (by kernel_rfl)) (fun _ _ _ h=>h) (Or.inl ⟨by rfl,?_⟩) ?_ ?_
      rotate_left
      ·intro w'
       go_simp
       with_reducible rfl
      rotate_left
      ·simp only [Act.put,List.setIfInBounds_toArray,List.set_cons_zero,List.set_cons_succ,i64_w,i32_w]
       rfl
      refine pure_ (i:=3) (N:=some 10) (v:=?_) (a':=?_) #[true,false,false,true,false,false,false,false,false] rfl rfl (any_of HT_.out (by kernel_rfl)) (fun _ _ _ h=>h) (Or.inl ⟨by rfl,?_⟩) ?_ ?_
      rotate_left
      ·intro w'
       go_simp
       with_reducible rfl
      rotate_left
      ·simp only [Act.put,List.setIfInBounds_toArray,List.set_cons_zero,List.set_cons_succ,i64_w,i32_w]
       rfl
      refine take_ (i:=1) (N:=some 8) (v:=?_) (a':=?_) #[true,true,false,true,false,false,false,false,false] rfl rfl (take_ofW HT_.out HW_.out (by kernel_rfl)) (fun _ _ _ h=>h) (Or.inl ⟨by rfl,?_⟩) hHeld ?_ ?_
      rotate_left
      ·rintro w' ⟨s0,s1⟩
       go_simp
       with_reducible rfl
      rotate_left
      ·simp only [Act.put,List.setIfInBounds_toArray,List.set_cons_zero,List.set_cons_succ,i64_w,i32_w]
       rfl
      refine take_ (i:=4) (N:=some 11) (v:=?_) (a':=?_) #[true,true,false,true,true,false,false,false,false] rfl rfl (take_ofW HT_.out HW_.out (by kernel_rfl)) (fun _ _ _ h=>h) (Or.inl ⟨by rfl,?_⟩) hHeld ?_ ?_
      rotate_left
      ·rintro w' ⟨s0,s1⟩
       go_simp
       with_reducible rfl
      rotate_left
      ·simp only [Act.put,List.setIfInBounds_toArray,List.set_cons_zero,List.set_cons_succ,i64_w,i32_w]
       rfl
      refine pure_ (i:=5) (N:=some 12) (v:=?_) (a':=?_) #[true,true,false,true,true,true,false,false,false] rfl rfl (any_of HT_.out (by kernel_rfl)) (fun _ _ _ h=>h) (Or.inl ⟨by rfl,?_⟩) ?_ ?_
      rotate_left
      ·intro w'
       go_simp
       with_reducible rfl
      rotate_left
      ·simp only [Act.put,List.setIfInBounds_toArray,List.set_cons_zero,List.set_cons_succ,i64_w,i32_w]
       rfl
      refine join_ (σ:=Value × Value) 2 #[true,true,true,true,true,true,true,false,false] (fun s_=>[(9,s_.1),(13,s_.2)]) (fun s_ w'=>(w'.cell? ⟨gb382,0,none⟩=some (.int .i64 a0_0)∧w'.cell? ⟨gb382,1,none⟩=some (.slice A0_1 l0_1.length c0_1))∧(Kd.R k87 87 w' w.heap.size (fun _=>True) s_.1 y385)∧(Kd.R Kd.bool 4 w' w.heap.size (fun _=>True) s_.2 y388)∧(w'.heap[gb382]?=some (.cells #[.int .i64 a0_0,.slice A0_1 l0_1.length c0_1] 31 (0,0)))∧(w'.heap[gb383]?=some (.cells #[.bool false,.slice none 0 0,.slice none 0 0] 83 (0,0)))∧(Below w.heap.size w w')) ?_ ?_
      rotate_left
      ·intro hCont
       refine two_ (i:=2) (j:=6) (Ni:=some 9) (Nj:=some 13) #[true,true,true,true,true,true,false,false,false] #[true,true,false,true,true,true,true,false,false] rfl rfl rfl rfl (two_of HT_.out (by kernel_rfl)) (by decide) (by decide) (fun K hK=>?_) (fun K hK=>?_)
       ·skip
        refine Kd.R_make_step k87 _ 87 (by rfl) (N:=9) rfl 80 _ _ rfl a0_0 rfl rfl Tryd.underlying80 (.agg #[(.int .i64 0),(.int .i64 0),(.bool false),(.bool false),(.int .i64 0)]) 32 info87 rfl (by decide) (by omega) z87 (ok:=fun _=>True) (okp:=fun _=>True) (k87_mkM _ _ _ z87 ) (fun _ hk=>hk) trivial (of_decide_eq_true (by first|(with_reducible assumption)|assumption)) (Nat.le_trans (Nat.mul_le_mul_right _ (of_decide_eq_true (by first|(with_reducible assumption)|assumption):a0_0.toNat≤8796093022208)) (by omega)) (Below.refl _ _) (Nat.le_refl _) ?_
        intro v386 w14 ho15 hb hg_ hnew_
        clear hg_ hnew_
        (first|rw [← Ny385.out] at ho15|(simp only [Int.reduceToNat] at ho15;rw [← Ny385.out] at ho15))
        have n0_:=Aside0.mk (Kd.R_lower ho15 (below_size (by exact HB.out)))
        have n1_:=Aside0.mk (blk_below (g:=gb382) (o:=.cells #[.int .i64 a0_0,.slice A0_1 l0_1.length c0_1] 31 (0,0)) (by exact BK382.out) hb)
        have n2_:=Aside0.mk (blk_below (g:=gb383) (o:=.cells #[.bool false,.slice none 0 0,.slice none 0 0] 83 (0,0)) (by exact BK383.out) hb)
        have n3_:=Aside0.mk (below_step (by exact HB.out) hb)
        clear BK382
        clear BK383
        clear HB
        have HO387:=n0_
        have BK382:=n1_
        have BK383:=n2_
        have HB:=n3_
        clear n0_ n1_ n2_ n3_
        clear hb ho15
        refine hK.out _ _ ⟨(blk_cell BK382.out 0).trans rfl,(blk_cell BK382.out 1).trans rfl⟩ (fun hHeld=>?_)
        clear hK K
        refine norm_ (a':=?_) ?_ ?_
        rotate_left
        ·show Act.put _ (some 9) _=_
         simp only [Act.put,List.setIfInBounds_toArray,List.set_cons_zero,List.set_cons_succ,i64_w,i32_w]
         rfl
        refine one_ (i:=6) (N:=some 13) #[true,true,true,true,true,true,true,false,false] rfl rfl (one_of HT_.out (by kernel_rfl)) (by decide) (fun K hK=>?_)
        refine Kd.R_make_step Kd.bool _ 4 (by rfl) (N:=13) rfl 81 _ _ rfl (l0_1.length:Int) rfl rfl Tryd.underlying81 (.bool false) 1 info4 rfl (by decide) (by omega) false (ok:=fun _=>True) (okp:=fun _=>True) rfl (fun _ hk=>hk) trivial (of_decide_eq_true (by first|(with_reducible assumption)|assumption)) (Nat.le_trans (Nat.mul_le_mul_right _ (of_decide_eq_true (by first|(with_reducible assumption)|assumption):(l0_1.length:Int).toNat≤281474976710656)) (by omega)) (Below.refl _ _) (Nat.le_refl _) ?_
        intro v389 w16 ho17 hb hg_ hnew_
        clear hg_ hnew_
        (first|rw [← Ny388.out] at ho17|(simp only [Int.reduceToNat] at ho17;rw [← Ny388.out] at ho17))
        have n0_:=Aside0.mk (Kd.R_below (by exact HO387.out) hb)
        have n1_:=Aside0.mk (Kd.R_lower ho17 (below_size (by exact HB.out)))
        have n2_:=Aside0.mk (blk_below (g:=gb382) (o:=.cells #[.int .i64 a0_0,.slice A0_1 l0_1.length c0_1] 31 (0,0)) (by exact BK382.out) hb)
        have n3_:=Aside0.mk (blk_below (g:=gb383) (o:=.cells #[.bool false,.slice none 0 0,.slice none 0 0] 83 (0,0)) (by exact BK383.out) hb)
        have n4_:=Aside0.mk (below_step (by exact HB.out) hb)
        clear HO387
        clear BK382
        clear BK383
        clear HB
        have HO387:=n0_
        have HO390:=n1_
        have BK382:=n2_
        have BK383:=n3_
        have HB:=n4_
        clear n0_ n1_ n2_ n3_ n4_
        clear hb ho17
        obtain ⟨Ao18,co18,eo18⟩:=Kd.R_slice HO390.out
        (first|subst eo18|(injection eo18 with f1_ f2_ f3_;have f4_:=f1_.symm;have f5_:=f3_.symm;clear f1_ f2_ f3_;subst f4_;subst f5_))
        obtain ⟨Ao19,co19,eo19⟩:=Kd.R_slice HO387.out
        (first|subst eo19|(injection eo19 with f1_ f2_ f3_;have f4_:=f1_.symm;have f5_:=f3_.symm;clear f1_ f2_ f3_;subst f4_;subst f5_))
        refine hK.out _ _ ⟨(blk_cell BK382.out 0).trans rfl,(blk_cell BK382.out 1).trans rfl⟩ (fun hHeld=>?_)
        clear hK K
        refine norm_ (a':=?_) ?_ ?_
        rotate_left
        ·show Act.put _ (some 13) _=_
         simp only [Act.put,List.setIfInBounds_toArray,List.set_cons_zero,List.set_cons_succ,i64_w,i32_w]
         rfl
        exact norm_ (by simp only [putAll,Act.put,List.setIfInBounds_toArray,List.set_cons_zero,List.set_cons_succ]) (hCont (.slice Ao19 y385.length co19,.slice Ao18 y388.length co18) _ ⟨hHeld,(by exact HO387.out),(by exact HO390.out),(by exact BK382.out),(by exact BK383.out),(by exact HB.out)⟩)
       skip
       refine Kd.R_make_step Kd.bool _ 4 (by rfl) (N:=13) rfl 81 _ _ rfl (l0_1.length:Int) rfl rfl Tryd.underlying81 (.bool false) 1 info4 rfl (by decide) (by omega) false (ok:=fun _=>True) (okp:=fun _=>True) rfl (fun _ hk=>hk) trivial (of_decide_eq_true (by first|(with_reducible assumption)|assumption)) (Nat.le_trans (Nat.mul_le_mul_right _ (of_decide_eq_true (by first|(with_reducible assumption)|assumption):(l0_1.length:Int).toNat≤281474976710656)) (by omega)) (Below.refl _ _) (Nat.le_refl _) ?_
       intro v389 w14 ho15 hb hg_ hnew_
       clear hg_ hnew_
       (first|rw [← Ny388.out] at ho15|(simp only [Int.reduceToNat] at ho15;rw [← Ny388.out] at ho15))
       have n0_:=Aside0.mk (Kd.R_lower ho15 (below_size (by exact HB.out)))
       have n1_:=Aside0.mk (blk_below (g:=gb382) (o:=.cells #[.int .i64 a0_0,.slice A0_1 l0_1.length c0_1] 31 (0,0)) (by exact BK382.out) hb)
       have n2_:=Aside0.mk (blk_below (g:=gb383) (o:=.cells #[.bool false,.slice none 0 0,.slice none 0 0] 83 (0,0)) (by exact BK383.out) hb)
       have n3_:=Aside0.mk (below_step (by exact HB.out) hb)
       clear BK382
       clear BK383
       clear HB
       have HO390:=n0_
       have BK382:=n1_
       have BK383:=n2_
       have HB:=n3_
       clear n0_ n1_ n2_ n3_
       clear hb ho15
       refine hK.out _ _ ⟨(blk_cell BK382.out 0).trans rfl,(blk_cell BK382.out 1).trans rfl⟩ (fun hHeld=>?_)
       clear hK K
       refine norm_ (a':=?_) ?_ ?_
       rotate_left
       ·show Act.put _ (some 13) _=_
        simp only [Act.put,List.setIfInBounds_toArray,List.set_cons_zero,List.set_cons_succ,i64_w,i32_w]
        rfl
       refine one_ (i:=2) (N:=some 9) #[true,true,true,true,true,true,true,false,false] rfl rfl (one_of HT_.out (by kernel_rfl)) (by decide) (fun K hK=>?_)
       refine Kd.R_make_step k87 _ 87 (by rfl) (N:=9) rfl 80 _ _ rfl a0_0 rfl rfl Tryd.underlying80 (.agg #[(.int .i64 0),(.int .i64 0),(.bool false),(.bool false),(.int .i64 0)]) 32 info87 rfl (by decide) (by omega) z87 (ok:=fun _=>True) (okp:=fun _=>True) (k87_mkM _ _ _ z87 ) (fun _ hk=>hk) trivial (of_decide_eq_true (by first|(with_reducible assumption)|assumption)) (Nat.le_trans (Nat.mul_le_mul_right _ (of_decide_eq_true (by first|(with_reducible assumption)|assumption):a0_0.toNat≤8796093022208)) (by omega)) (Below.refl _ _) (Nat.le_refl _) ?_
       intro v386 w16 ho17 hb hg_ hnew_
       clear hg_ hnew_
       (first|rw [← Ny385.out] at ho17|(simp only [Int.reduceToNat] at ho17;rw [← Ny385.out] at ho17))
       have n0_:=Aside0.mk (Kd.R_below (by exact HO390.out) hb)
       have n1_:=Aside0.mk (Kd.R_lower ho17 (below_size (by exact HB.out)))
       have n2_:=Aside0.mk (blk_below (g:=gb382) (o:=.cells #[.int .i64 a0_0,.slice A0_1 l0_1.length c0_1] 31 (0,0)) (by exact BK382.out) hb)
       have n3_:=Aside0.mk (blk_below (g:=gb383) (o:=.cells #[.bool false,.slice none 0 0,.slice none 0 0] 83 (0,0)) (by exact BK383.out) hb)
       have n4_:=Aside0.mk (below_step (by exact HB.out) hb)
       clear HO390
       clear BK382
       clear BK383
       clear HB
       have HO390:=n0_
       have HO387:=n1_
       have BK382:=n2_
       have BK383:=n3_
       have HB:=n4_
       clear n0_ n1_ n2_ n3_ n4_
       clear hb ho17
       obtain ⟨Ao18,co18,eo18⟩:=Kd.R_slice HO390.out
       (first|subst eo18|(injection eo18 with f1_ f2_ f3_;have f4_:=f1_.symm;have f5_:=f3_.symm;clear f1_ f2_ f3_;subst f4_;subst f5_))
       obtain ⟨Ao19,co19,eo19⟩:=Kd.R_slice HO387.out
       (first|subst eo19|(injection eo19 with f1_ f2_ f3_;have f4_:=f1_.symm;have f5_:=f3_.symm;clear f1_ f2_ f3_;subst f4_;subst f5_))
       refine hK.out _ _ ⟨(blk_cell BK382.out 0).trans rfl,(blk_cell BK382.out 1).trans rfl⟩ (fun hHeld=>?_)
       clear hK K
       refine norm_ (a':=?_) ?_ ?_
       rotate_left
       ·show Act.put _ (some 9) _=_
        simp only [Act.put,List.setIfInBounds_toArray,List.set_cons_zero,List.set_cons_succ,i64_w,i32_w]
        rfl
       exact norm_ (by simp only [putAll,Act.put,List.setIfInBounds_toArray,List.set_cons_zero,List.set_cons_succ]) (hCont (.slice Ao19 y385.length co19,.slice Ao18 y388.length co18) _ ⟨hHeld,(by exact HO387.out),(by exact HO390.out),(by exact BK382.out),(by exact BK383.out),(by exact HB.out)⟩)
      rintro ⟨v386,v389⟩ w20 ⟨hS_,h0_,h1_,h2_,h3_,h4_⟩
      have n0_:Aside0 (Kd.R k87 87 w20 w.heap.size (fun _=>True) v386 y385):=⟨h0_⟩
      have n1_:Aside0 (Kd.R Kd.bool 4 w20 w.heap.size (fun _=>True) v389 y388):=⟨h1_⟩
      have n2_:Aside0 (w20.heap[gb382]?=some (.cells #[.int .i64 a0_0,.slice A0_1 l0_1.length c0_1] 31 (0,0))):=⟨h2_⟩
      have n3_:Aside0 (w20.heap[gb383]?=some (.cells #[.bool false,.slice none 0 0,.slice none 0 0] 83 (0,0))):=⟨h3_⟩
      have n4_:Aside0 (Below w.heap.size w w20):=⟨h4_⟩
      clear BK382
      clear BK383
      clear HB
      clear h0_ h1_ h2_ h3_ h4_
      have HO387:=n0_
      have HO390:=n1_
      have BK382:=n2_
      have BK383:=n3_
      have HB:=n4_
      clear n0_ n1_ n2_ n3_ n4_
      have hHeld:w20.cell? ⟨gb382,0,none⟩=some (.int .i64 a0_0)∧w20.cell? ⟨gb382,1,none⟩=some (.slice A0_1 l0_1.length c0_1):=hS_
      obtain ⟨Ao21,co21,eo21⟩:=Kd.R_slice HO390.out
      (first|subst eo21|(injection eo21 with f1_ f2_ f3_;have f4_:=f1_.symm;have f5_:=f3_.symm;clear f1_ f2_ f3_;subst f4_;subst f5_))
      obtain ⟨Ao22,co22,eo22⟩:=Kd.R_slice HO387.out
      (first|subst eo22|(injection eo22 with f1_ f2_ f3_;have f4_:=f1_.symm;have f5_:=f3_.symm;clear f1_ f2_ f3_;subst f4_;subst f5_))
      refine norm_ (a':=?_) ?_ ?_
      rotate_left
      ·simp only [putAll,Act.put,List.setIfInBounds_toArray,List.set_cons_zero,List.set_cons_succ]
       rfl
      refine pure_ (i:=7) (N:=some 14) (v:=?_) (a':=?_) #[true,true,true,true,true,true,true,true,false] rfl rfl (any_of HT_.out (by kernel_rfl)) (fun _ _ _ h=>h) (Or.inl ⟨by rfl,?_⟩) ?_ ?_
      rotate_left
      ·intro w'
       go_simp
       with_reducible rfl
      rotate_left
      ·simp only [Act.put,List.setIfInBounds_toArray,List.set_cons_zero,List.set_cons_succ,i64_w,i32_w]
       rfl
      refine one_ (i:=8) (N:=none) #[true,true,true,true,true,true,true,true,true] rfl rfl (one_of HT_.out (by kernel_rfl)) (by decide) (fun K hK=>?_)
      have hs23:w20.cell? ⟨gb383,0,none⟩=some (.bool false):=(blk_cell BK383.out 0).trans rfl
      have hfs23:=blk_frozen BK383.out 0
      have hns23_0:=NB382_383.out
      have hms23_0:=NB383_382.out
      have hs24:w20.cell? ⟨gb383,1,none⟩=some (.slice none 0 0):=(blk_cell BK383.out 1).trans rfl
      have hfs24:=blk_frozen BK383.out 1
      have hns24_0:=NB382_383.out
      have hms24_0:=NB383_382.out
      have hs25:w20.cell? ⟨gb383,2,none⟩=some (.slice none 0 0):=(blk_cell BK383.out 2).trans rfl
      have hfs25:=blk_frozen BK383.out 2
      have hns25_0:=NB382_383.out
      have hms25_0:=NB383_382.out
      refine skip_ (w1:=?_) (by rfl) rfl ?_ ?_
      rotate_left
      ·go_simp
       rfl
      refine hK.out _ _ ⟨((cell_far (p:=⟨gb383,_,none⟩) NB382_383.out _).trans (((cell_far (p:=⟨gb383,_,none⟩) NB382_383.out _).trans (((cell_far (p:=⟨gb383,_,none⟩) NB382_383.out _).trans (hHeld.1)))))),((cell_far (p:=⟨gb383,_,none⟩) NB382_383.out _).trans (((cell_far (p:=⟨gb383,_,none⟩) NB382_383.out _).trans (((cell_far (p:=⟨gb383,_,none⟩) NB382_383.out _).trans (hHeld.2))))))⟩ (fun hHeld=>?_)
      clear hK K
      refine done_ (done_of HT_.out (by kernel_rfl)) ?_
      try go_wp2
      refine bodyPost_ret (results_cell_row rfl _ _ gb383 83 #[.bool true,.slice Ao22 y385.length co22,.slice Ao21 y388.length co21] (0,0) _ rfl (by refine blk_put (cs:=#[.bool true,.slice Ao22 y385.length co22,.slice none 0 0]) ?_ 2 _ rfl;refine blk_put (cs:=#[.bool true,.slice none 0 0,.slice none 0 0]) ?_ 1 _ rfl;refine blk_put (cs:=#[.bool false,.slice none 0 0,.slice none 0 0]) ?_ 0 _ rfl;exact BK383.out) Tryd.underlying83 rfl (by kernel_rfl)) rfl ?_
      exact ⟨_,_,by first|rfl|(simp [errW_none,errW_some] <;> rfl)|(simp [*,errW_none,errW_some] <;> rfl),by (with_reducible repeat (first|apply Kd.R_alloc|apply Kd.R_drewN|apply Kd.R_drew));exact Kd.R_mono (Kd.R_far (p:=⟨gb383,2,none⟩) (Kd.R_far (p:=⟨gb383,1,none⟩) (Kd.R_far (p:=⟨gb383,0,none⟩) (Kd.R_types HO387.out BK383.out (by decide)) (fun _ hk=>hk.2) (.bool true)) (fun _ hk=>hk.2) (.slice Ao22 y385.length co22)) (fun _ hk=>hk.2) (.slice Ao21 y388.length co21)) (fun _ hk=>trivial),by (with_reducible repeat (first|apply Kd.R_alloc|apply Kd.R_drewN|apply Kd.R_drew));exact Kd.R_mono (Kd.R_far (p:=⟨gb383,2,none⟩) (Kd.R_far (p:=⟨gb383,1,none⟩) (Kd.R_far (p:=⟨gb383,0,none⟩) (Kd.R_types HO390.out BK383.out (by decide)) (fun _ hk=>hk.2) (.bool true)) (fun _ hk=>hk.2) (.slice Ao22 y385.length co22)) (fun _ hk=>hk.2) (.slice Ao21 y388.length co21)) (fun _ hk=>trivial),by repeat (first|(with_reducible first|exact HB.out|apply below_alloc|apply pw_below_drewN|apply below_drew1|refine below_set ?_ GE382.out|refine below_set ?_ GE383.out)|exact HB.out)⟩
     rw [if_neg c7] at H
     exact absurd H (by simp)
    rw [if_neg c6] at H
    exact absurd H (by simp)
   rw [if_neg c5] at H
   exact absurd H (by simp)
  rw [if_neg c4] at H
  exact absurd H (by simp)
 rw [if_neg c3] at H
 have c3b0:(t384==0)=false:=beq_eq_false_iff_ne.mpr c3
 have c3b1:(t384 != 0)=true:=bne_iff_ne.mpr c3
 simp only [Option.some.injEq,Prod.mk.injEq] at H
 obtain ⟨rfl,rfl,rfl⟩:=H
 go_enter Tryd.func62,Tryd.ntmps62
 go_wp2_with (first|((with_reducible refine gate_dst (N:=1) rfl ?_);refine box_event ?hg (N:=1) ?hd (cs:=#[.int .i64 a0_0,.slice A0_1 l0_1.length c0_1]) (t:=31) ?hr ?_;(case hd=>rfl);(case hg=>rfl);(case hr=>first|(go_simp;done)|(go_simp;rfl));intro gb382 hg w26 hbox hb;have n0_:=Aside0.mk (below_step (by exact HB.out) hb);have n1_:=Aside0.mk (hbox);have n2_:=Aside0.mk ((by rw [hg];exact (below_size (by exact HB.out)):w.heap.size≤gb382));have n3_:=Aside0.mk ((by rw [hg];exact (below_size (by exact HB.out)):w.heap.size≤gb382));clear HB;have HB:=n0_;have BK382:=n1_;have GW382:=n2_;have GE382:=n3_;clear n0_ n1_ n2_ n3_;clear hb hbox hg)|((with_reducible refine gate_dst (N:=2) rfl ?_);refine box_event ?hg (N:=2) ?hd (cs:=#[.bool false,.slice none 0 0,.slice none 0 0]) (t:=83) ?hr ?_;(case hd=>rfl);(case hg=>rfl);(case hr=>first|(go_simp;done)|(go_simp;rfl));intro gb383 hg w27 hbox hb;have n0_:=Aside0.mk (blk_below (g:=gb382) (o:=.cells #[.int .i64 a0_0,.slice A0_1 l0_1.length c0_1] 31 (0,0)) (by exact BK382.out) hb);have n1_:=Aside0.mk (below_step (by exact HB.out) hb);have n2_:=Aside0.mk (hbox);have n3_:=Aside0.mk ((by rw [hg];exact (below_size (by exact HB.out)):w.heap.size≤gb383));have n4_:=Aside0.mk ((by rw [hg];exact (below_size (by exact HB.out)):w.heap.size≤gb383));have n5_:=Aside0.mk ((by rw [hg];exact Nat.ne_of_lt (blk_lt (g:=gb382) (o:=.cells #[.int .i64 a0_0,.slice A0_1 l0_1.length c0_1] 31 (0,0)) (by exact BK382.out)):gb382 ≠ gb383));have n6_:=Aside0.mk ((by rw [hg];exact Nat.ne_of_gt (blk_lt (g:=gb382) (o:=.cells #[.int .i64 a0_0,.slice A0_1 l0_1.length c0_1] 31 (0,0)) (by exact BK382.out)):gb383 ≠ gb382));clear BK382;clear HB;have BK382:=n0_;have HB:=n1_;have BK383:=n2_;have GW383:=n3_;have GE383:=n4_;have NB382_383:=n5_;have NB383_382:=n6_;clear n0_ n1_ n2_ n3_ n4_ n5_ n6_;clear hb hbox hg;have hnb28:=NB382_383.out;have hnc28:=NB383_382.out;have hcz29_0:w27.cell? ⟨gb382,0,none⟩=some (.int .i64 a0_0):=(blk_cell BK382.out 0).trans rfl;have hcz29_1:w27.cell? ⟨gb382,1,none⟩=some (.slice A0_1 l0_1.length c0_1):=(blk_cell BK382.out 1).trans rfl;have hfz29_0:=blk_frozen BK382.out 0;have hfz29_1:=blk_frozen BK382.out 1)|((with_reducible refine gate_callee (f:=30) rfl ?_);refine goesL_ (some 4) rfl rfl Tryd.func30 (by kernel_rfl) rfl #[.agg #[.int .i64 a0_0,.slice A0_1 l0_1.length c0_1]] rfl (by (try simp only [List.map_toArray,List.map_cons,List.map_nil]);first|done|rfl|(simp only [List.length_drop,List.length_take];rfl)) ?_;(with_reducible refine (impl_LayoutOk.calls a0_0 _ _ l0_1 t384 _ ?side1 ?side2 A2.out).mono ?_);(case side1=>repeat (first|exact (Kd.C_below HR0_1.out HB.out)|(with_reducible refine Kd.C_alloc ?_ _)|(with_reducible refine Kd.C_drewN ?_ _)|(with_reducible refine Kd.C_drew ?_)));(case side2=>exact HC0_1.out);rintro e w30 ⟨rfl,hb⟩;refine ⟨_,rfl,?_⟩;have n0_:=Aside0.mk (blk_below (g:=gb382) (o:=.cells #[.int .i64 a0_0,.slice A0_1 l0_1.length c0_1] 31 (0,0)) (by exact BK382.out) hb);have n1_:=Aside0.mk (blk_below (g:=gb383) (o:=.cells #[.bool false,.slice none 0 0,.slice none 0 0] 83 (0,0)) (by exact BK383.out) hb);have n2_:=Aside0.mk (below_step (by exact HB.out) hb);clear BK382;clear BK383;clear HB;have BK382:=n0_;have BK383:=n1_;have HB:=n2_;clear n0_ n1_ n2_;(try clear hb);(try clear hb2);(try clear hk);(try clear hi);have hcz31_0:w30.cell? ⟨gb383,0,none⟩=some (.bool false):=(blk_cell BK383.out 0).trans rfl;have hcz31_1:w30.cell? ⟨gb383,1,none⟩=some (.slice none 0 0):=(blk_cell BK383.out 1).trans rfl;have hcz31_2:w30.cell? ⟨gb383,2,none⟩=some (.slice none 0 0):=(blk_cell BK383.out 2).trans rfl;have hfz31_0:=blk_frozen BK383.out 0;have hfz31_1:=blk_frozen BK383.out 1;have hfz31_2:=blk_frozen BK383.out 2))
 refine bodyPost_ret (results_cell_row rfl _ _ gb383 83 #[.bool false,.slice none 0 0,.slice none 0 0] (0,0) _ rfl (by refine blk_put (cs:=#[.bool false,.slice none 0 0,.slice none 0 0]) ?_ 2 _ rfl;refine blk_put (cs:=#[.bool false,.slice none 0 0,.slice none 0 0]) ?_ 1 _ rfl;refine blk_put (cs:=#[.bool false,.slice none 0 0,.slice none 0 0]) ?_ 0 _ rfl;exact BK383.out) Tryd.underlying83 rfl (by kernel_rfl)) rfl ?_
 exact ⟨_,_,by first|rfl|(simp [errW_none,errW_some] <;> rfl)|(simp [*,errW_none,errW_some] <;> rfl),by first|exact Kd.R_nil _ _ _ _ _|exact Kd.N_nil _ _ _ _ _|exact Kd.V_nil _ _ _ _ _|exact Kd.Q_nil _ _ _ _ _|exact Kd.S_nil _ _ _ _ _,by first|exact Kd.R_nil _ _ _ _ _|exact Kd.N_nil _ _ _ _ _|exact Kd.V_nil _ _ _ _ _|exact Kd.Q_nil _ _ _ _ _|exact Kd.S_nil _ _ _ _ _,by repeat (first|(with_reducible first|exact HB.out|apply below_alloc|apply pw_below_drewN|apply below_drew1|refine below_set ?_ GE382.out|refine below_set ?_ GE383.out)|exact HB.out)⟩
end Go.Proofs.YtpdnabhpkdchjaaDoor.P
namespace Go.Proofs.YtpdnabhpkdchjaaDoor.P
open Go.RowKit Go.Proofs.YtpdnabhpkdchjaaDoorW.PrintWords Go.Proofs.YtpdnabhpkdchjaaDoorW.PrintLast
set_option linter.unusedVariables false
set_option linter.unusedSimpArgs false
def begin3 (n:Int) (l:List S98):Bool × List S87 × List Bool:=if layoutOk n l=0 then (true,List.replicate n.toNat z87,List.replicate l.length false) else (false,[],[])
theorem specBegin_ev (n:Int) (l:List S98):Ev (fun k=>spec_Begin.f k n l) (begin3 n l):=by
 unfold spec_Begin.f
 refine Ev.bind (specLayoutOk_ev n l) ?_
 by_cases hl:layoutOk n l=0
 ·obtain ⟨hn1,hn2,hc⟩:=lay_n hl
  refine Ev.ite_pos hl (Ev.ite_pos (by omega) (Ev.ite_pos (by omega) (Ev.ite_pos (by omega) (Ev.ite_pos (by omega) ?_))))
  rw [begin3,if_pos hl]
  exact Ev.now _
 refine Ev.ite_neg hl ?_
 rw [begin3,if_neg hl]
 exact Ev.now _
theorem implBegin_eq (n:Int) (l:List S98):impl_Begin.f n l=some (begin3 n l):=by
 unfold impl_Begin.f impl_LayoutOk.f
 rw [Option.bind_some,begin3]
 by_cases hl:layoutOk n l=0
 ·obtain ⟨hn1,hn2,hc⟩:=lay_n hl
  rw [if_pos hl,if_pos (by omega),if_pos (by omega),if_pos (by omega),if_pos (by omega),if_pos hl]
  rfl
 rw [if_neg hl,if_neg hl]
end Go.Proofs.YtpdnabhpkdchjaaDoor.P
namespace Go.Proofs.YtpdnabhpkdchjaaDoor.P
open Go.RowKit Go.Proofs.YtpdnabhpkdchjaaDoorW.PrintWords Go.Proofs.YtpdnabhpkdchjaaDoorW.PrintLast Go.Proofs.YtpdnabhpkdchjaaDoorW.PrintMore
set_option linter.unusedVariables false
structure RnSt (w0 w:World) (gl gs:Nat) (lv sv:List Value) (u1 u2:Value) (s:S83) (v:Value) (out:List S85):Prop where
 hl:w.heap[gl]?=some (.cells lv.toArray 31 (0,0))
 hs:w.heap[gs]?=some (.cells sv.toArray 83 (0,0))
 V1:Kd.V k87 87 w w0.heap.size (fun k=>some k=u1.ownBlock) u1 s.f1
 V2:Kd.V Kd.bool 4 w w0.heap.size (fun k=>some k=u2.ownBlock) u2 s.f2
 HS:Kd.S k85 85 w w0.heap.size (fun _=>True) v out
 hB:Below w0.heap.size w0 w
 gle:w0.heap.size≤gl
 gse:w0.heap.size≤gs
structure MdSt (w0 wr w:World) (gl gs gd:Nat) (lv sv dv:List Value) (v2 v3:Value) (ss:List S87) (dd:List Bool) (v:Value) (out:List S85):Prop where
 hl:w.heap[gl]?=some (.cells lv.toArray 31 (0,0))
 hs:w.heap[gs]?=some (.cells sv.toArray 83 (0,0))
 hd:w.heap[gd]?=some (.cells dv.toArray 85 (0,0))
 R1:Kd.R k87 87 w wr.heap.size (fun _=>True) v2 ss
 R2:Kd.R Kd.bool 4 w wr.heap.size (fun _=>True) v3 dd
 HS:Kd.S k85 85 w w0.heap.size (fun k=>k<wr.heap.size) v out
 hB:Below w0.heap.size w0 w
 gle:w0.heap.size≤gl
 gse:w0.heap.size≤gs
 gde:wr.heap.size≤gd
 hw:w0.heap.size≤wr.heap.size
section
variable {w0 wr w w' w1 : World} {gl gs gd : Nat} {lv sv dv : List Value} {u1 u2 v v1 v2 v3 : Value} {s : S83} {ss : List S87} {dd : List Bool} {out : List S85}
theorem RnSt.up (h:RnSt w0 w gl gs lv sv u1 u2 s v out) (hb:Below w.heap.size w w'):RnSt w0 w' gl gs lv sv u1 u2 s v out where
 hl:=blk_below h.hl hb
 hs:=blk_below h.hs hb
 V1:=Kd.V_below h.V1 hb
 V2:=Kd.V_below h.V2 hb
 HS:=Kd.S_below h.HS hb
 hB:=below_step h.hB hb
 gle:=h.gle
 gse:=h.gse
theorem RnSt.mid (h:RnSt w0 wr gl gs lv sv u1 u2 s v out) (hb:Below wr.heap.size wr w) (hd:w.heap[gd]?=some (.cells dv.toArray 85 (0,0))) (gde:wr.heap.size≤gd) (R1:Kd.R k87 87 w wr.heap.size (fun _=>True) v2 ss) (R2:Kd.R Kd.bool 4 w wr.heap.size (fun _=>True) v3 dd) :
  MdSt w0 wr w gl gs gd lv sv dv v2 v3 ss dd v out where
 hl:=blk_below h.hl hb
 hs:=blk_below h.hs hb
 hd:=hd
 R1:=R1
 R2:=R2
 HS:=Kd.S_below (Kd.S_mono (Kd.S_bound h.HS) (fun _ hk=>hk.2.2.1)) hb
 hB:=below_step h.hB hb
 gle:=h.gle
 gse:=h.gse
 gde:=gde
 hw:=h.hB.size
def okp (v2 v3:Value) (k:Nat):Prop:=some k=v2.ownBlock ∨ some k=v3.ownBlock
theorem own_from {α:Type} {d:Kd α} {e:Nat} {base:Nat} {ok:Nat→Prop} {xs:List α} (h:d.R e w base ok v xs) (k:Nat) (hk:v.ownBlock=some k):base≤k:=by
 rcases Kd.R_base2 h with h2|⟨j,h2,h3⟩
 ·rw [h2] at hk;cases hk
 rw [h2] at hk;cases hk;exact h3
theorem MdSt.okp_new (h:MdSt w0 wr w gl gs gd lv sv dv v2 v3 ss dd v out) {k:Nat} (hk:okp v2 v3 k):wr.heap.size≤k:=by
 rcases hk with hk|hk
 ·exact own_from h.R1 k hk.symm
 exact own_from h.R2 k hk.symm
theorem MdSt.okp_ne (h:MdSt w0 wr w gl gs gd lv sv dv v2 v3 ss dd v out) {k:Nat} (hk:okp v2 v3 k):some k ≠ v.ownBlock:=by
 intro e
 have h1:=h.okp_new hk
 have h2:k<wr.heap.size:=(Kd.S_R h.HS).1 k e.symm
 omega
theorem MdSt.rest (h:MdSt w0 wr w gl gs gd lv sv dv v2 v3 ss dd v out):Kd.S k85 85 w w0.heap.size (fun k=>True∧¬ okp v2 v3 k) v out :=
 Kd.S_mono h.HS (fun k hk=>⟨trivial,fun hp=>by have:=h.okp_new hp;omega⟩)
theorem MdSt.elem (h:MdSt w0 wr w gl gs gd lv sv dv v2 v3 ss dd v out) (code:Int) (b:Bool):k85.M w w0.heap.size (okp v2 v3) ⟨code,⟨b,ss,dd⟩⟩ [.int .i64 code,.bool b,v2,v3] :=
 k85_mkM w _ _ ⟨code,⟨b,ss,dd⟩⟩ (Kd.R_mono (Kd.R_tight rfl (Kd.R_lower h.R1 h.hw)) (fun _ hk=>.inl hk)) (Kd.R_mono (Kd.R_tight rfl (Kd.R_lower h.R2 h.hw)) (fun _ hk=>.inr hk))
theorem MdSt.fin {x0 x1 x2:Value} (h:MdSt w0 wr w gl gs gd lv [x0,x1,x2] dv v2 v3 ss dd v out) {code:Int} {b:Bool} (HS1:Kd.S k85 85 w1 w0.heap.size (fun _=>True) v1 (out ++ [⟨code,⟨b,ss,dd⟩⟩])) (hB1:Below w0.heap.size w0 w1) (hg:w.grownBy w1 v.ownBlock) :
  RnSt w0 (((w1.setCell ⟨gs,0,none⟩ (.bool b)).setCell ⟨gs,1,none⟩ v2).setCell ⟨gs,2,none⟩ v3) gl gs lv [.bool b,v2,v3] v2 v3 ⟨b,ss,dd⟩ v1 (out ++ [⟨code,⟨b,ss,dd⟩⟩]):=by
 have ngs:∀ k,some k=v2.ownBlock→k ≠ gs:=fun k hk e=>Kd.R_ne h.R1 h.hs (by decide) (e ▸ hk)
 have ngs3:∀ k,some k=v3.ownBlock→k ≠ gs:=fun k hk e=>Kd.R_ne h.R2 h.hs (by decide) (e ▸ hk)
 have hl1:=blk_grown h.hl hg (Kd.S_ne h.HS h.hl (by decide))
 have hs1:=blk_grown h.hs hg (Kd.S_ne h.HS h.hs (by decide))
 have ne:=blk_ne hl1 hs1 (by decide)
 have W1:Kd.V k87 87 w1 w0.heap.size (fun k=>some k=v2.ownBlock) v2 ss:=Kd.V_grown (Kd.R_V (Kd.R_tight rfl h.R1)) hg (fun k hk=>h.okp_ne (.inl hk))
 have W2:Kd.V Kd.bool 4 w1 w0.heap.size (fun k=>some k=v3.ownBlock) v3 dd:=Kd.V_grown (Kd.R_V (Kd.R_tight rfl h.R2)) hg (fun k hk=>h.okp_ne (.inr hk))
 have hq:∀ q,q ∈ 85 :: k85.E→q ≠ 83:=by decide
 have s0:=blk_put hs1 0 (.bool b) rfl
 have s1:=blk_put s0 1 v2 rfl
 have s2:=blk_put s1 2 v3 rfl
 exact {
  hl:=blk_far (blk_far (blk_far hl1 ne _) ne _) ne _
  hs:=s2
  V1:=Kd.V_far (Kd.V_far (Kd.V_far W1 (p:=⟨gs,0,none⟩) ngs _) (p:=⟨gs,1,none⟩) ngs _) (p:=⟨gs,2,none⟩) ngs _
  V2:=Kd.V_far (Kd.V_far (Kd.V_far W2 (p:=⟨gs,0,none⟩) ngs3 _) (p:=⟨gs,1,none⟩) ngs3 _) (p:=⟨gs,2,none⟩) ngs3 _
  HS:=Kd.S_set (Kd.S_set (Kd.S_set HS1 hs1 hq 0 _) s0 hq 1 _) s1 hq 2 _
  hB:=below_set (below_set (below_set hB1 h.gse) h.gse) h.gse
  gle:=h.gle
  gse:=h.gse }
theorem MdSt.at_ (h:MdSt w0 wr w gl gs gd lv sv dv v2 v3 ss dd v out) (hg:w.grownBy w1 v.ownBlock):w1.heap[gd]?=some (.cells dv.toArray 85 (0,0))∧w1.heap[gs]?=some (.cells sv.toArray 83 (0,0)) :=
 ⟨blk_grown h.hd hg (fun e=>by have:=(Kd.S_R h.HS).1 gd e.symm;have:=h.gde;omega),blk_grown h.hs hg (Kd.S_ne h.HS h.hs (by decide))⟩
theorem MdSt.up (h:MdSt w0 wr w gl gs gd lv sv dv v2 v3 ss dd v out) (hb:Below w.heap.size w w'):MdSt w0 wr w' gl gs gd lv sv dv v2 v3 ss dd v out where
 hl:=blk_below h.hl hb
 hs:=blk_below h.hs hb
 hd:=blk_below h.hd hb
 R1:=R_up h.R1 hb
 R2:=R_up h.R2 hb
 HS:=Kd.S_below h.HS hb
 hB:=below_step h.hB hb
 gle:=h.gle
 gse:=h.gse
 gde:=h.gde
 hw:=h.hw
theorem RnSt.midA {code:Int} {b:Bool} (h:RnSt w0 wr gl gs lv sv u1 u2 s v out) (hb:Below wr.heap.size wr w) (R1:Kd.R k87 87 w wr.heap.size (fun _=>True) v2 ss) (R2:Kd.R Kd.bool 4 w wr.heap.size (fun _=>True) v3 dd) :
  MdSt w0 wr (w.alloc (.cells #[.int .i64 code,.bool b,v2,v3] 85)) gl gs w.heap.size lv sv [.int .i64 code,.bool b,v2,v3] v2 v3 ss dd v out∧Below wr.heap.size wr (w.alloc (.cells #[.int .i64 code,.bool b,v2,v3] 85)) :=
 ⟨h.mid (below_alloc hb _) (heap_alloc_new w _) hb.size (R_up R1 (below_alloc (Below.refl _ _) _)) (R_up R2 (below_alloc (Below.refl _ _) _)),below_alloc hb _⟩
theorem RnSt.midB {code:Int} {b:Bool} {x0 x1 x2 x3:Value} (h:RnSt w0 wr gl gs lv sv u1 u2 s v out) (hb:Below wr.heap.size wr w) (hd:w.heap[gd]?=some (.cells #[x0,x1,x2,x3] 85 (0,0))) (gde:wr.heap.size≤gd) (R1:Kd.R k87 87 w wr.heap.size (fun _=>True) v2 ss) (R2:Kd.R Kd.bool 4 w wr.heap.size (fun _=>True) v3 dd) :
  MdSt w0 wr ((((w.setCell ⟨gd,0,none⟩ (.int .i64 code)).setCell ⟨gd,1,none⟩ (.bool b)).setCell ⟨gd,2,none⟩ v2).setCell ⟨gd,3,none⟩ v3) gl gs gd lv sv [.int .i64 code,.bool b,v2,v3] v2 v3 ss dd v out ∧
  Below wr.heap.size wr ((((w.setCell ⟨gd,0,none⟩ (.int .i64 code)).setCell ⟨gd,1,none⟩ (.bool b)).setCell ⟨gd,2,none⟩ v2).setCell ⟨gd,3,none⟩ v3):=by
 have B:=below_set (j:=3) (v:=v3) (below_set (j:=2) (v:=v2) (below_set (j:=1) (v:=.bool b) (below_set (j:=0) (v:=.int .i64 code) hb gde) gde) gde) gde
 have n1:=Kd.R_ne R1 hd (by decide)
 have n2:=Kd.R_ne R2 hd (by decide)
 exact ⟨h.mid B (blk_put (blk_put (blk_put (blk_put hd 0 _ rfl) 1 _ rfl) 2 _ rfl) 3 _ rfl) gde (R_off rfl (R_off rfl (R_off rfl (R_off rfl R1 n1 _) n1 _) n1 _) n1 _) (R_off rfl (R_off rfl (R_off rfl (R_off rfl R2 n2 _) n2 _) n2 _) n2 _),B⟩
end
theorem alloc_blk {w w':World} {o:Obj} (hb:Below (w.alloc o).heap.size (w.alloc o) w'):w'.heap[w.heap.size]?=some o:=blk_below (heap_alloc_new w o) hb
theorem alloc_blk_drew {w w':World} {o:Obj} (hb:Below (w.alloc o).drew.heap.size (w.alloc o).drew w'):w'.heap[w.heap.size]?=some o:=blk_below (blk_drew (heap_alloc_new w o)) hb
theorem begin_is {n:Int} {A:Option Addr} {c:Nat} {l:List S98} {w:World} (hr:Kd.C k98 w A l.length l) (hc:l.length≤c) (hl:layoutOk n l=0) :
  Calls Tryd.prog 62 #[.agg #[.int .i64 n,.slice A l.length c]] w fun e w'=>∃ v1_ v2_:Value,e=.returned (.agg #[.bool true,v1_,v2_])∧Kd.R k87 87 w' w.heap.size (fun _=>True) v1_ (st0 n l).f1∧Kd.R Kd.bool 4 w' w.heap.size (fun _=>True) v2_ (st0 n l).f2∧Below w.heap.size w w':=by
 have h:=impl_Begin.calls n A c l (begin3 n l).1 (begin3 n l).2.1 (begin3 n l).2.2 w hr hc (implBegin_eq n l)
 rw [show begin3 n l=(true,(st0 n l).f1,(st0 n l).f2) by rw [begin3,if_pos hl];rfl] at h
 exact h
theorem sbegin_is {n:Int} {A:Option Addr} {c:Nat} {l:List S98} {w:World} (hr:Kd.C k98 w A l.length l) (hc:l.length≤c) (hl:layoutOk n l=0) :
  Calls Tryd.prog 58 #[.agg #[.int .i64 n,.slice A l.length c]] w fun e w'=>∃ v1_ v2_:Value,e=.returned (.agg #[.bool true,v1_,v2_])∧Kd.R k87 87 w' w.heap.size (fun _=>True) v1_ (st0 n l).f1∧Kd.R Kd.bool 4 w' w.heap.size (fun _=>True) v2_ (st0 n l).f2∧Below w.heap.size w w':=by
 obtain ⟨k,hk⟩:=(specBegin_ev n l).rounds
 have h:=spec_Begin.calls k n A c l (begin3 n l).1 (begin3 n l).2.1 (begin3 n l).2.2 w hr hc hk
 rw [show begin3 n l=(true,(st0 n l).f1,(st0 n l).f2) by rw [begin3,if_pos hl];rfl] at h
 exact h
theorem info85:(Tryd.prog.info? 85).map (fun i=>(i.zero,i.size,i.bytes))=some (some (.agg #[(.int .i64 0),(.bool false),(.slice none 0 0),(.slice none 0 0)]),4,64):=by kernel_rfl
end Go.Proofs.YtpdnabhpkdchjaaDoor.P
namespace Go.Proofs.YtpdnabhpkdchjaaDoor.P
open Go.RowKit Go.Proofs.YtpdnabhpkdchjaaDoorW.PrintWords Go.Proofs.YtpdnabhpkdchjaaDoorW.PrintLast Go.Proofs.YtpdnabhpkdchjaaDoorW.PrintMore
attribute [local go_sem ↓] Go.wp_at_zero Go.wp_at_succ
set_option linter.unusedVariables false
set_option linter.unusedSimpArgs false
set_option maxHeartbeats 8000000 in
set_option maxRecDepth 100000 in
theorem run_is (n:Int) (A:Option Addr) (c:Nat) (l:List S98) (A1:Option Addr) (c1:Nat) (es:List S52) (w:World) (hr:Kd.C k98 w A l.length l) (hc:l.length≤c) (hr1:Kd.C k52 w A1 es.length es) (hc1:es.length≤c1) :
  Calls Tryd.prog 47 #[.agg #[.int .i64 n,.slice A l.length c],.slice A1 es.length c1] w fun e w'=>∃ v0_:Value,e=.returned (v0_)∧Kd.S k85 85 w' w.heap.size (fun _=>True) v0_ (run n l es)∧Below w.heap.size w w':=by
 have HR:=Aside0.mk hr
 have HC:=Aside0.mk hc
 have HR1:=Aside0.mk hr1
 have HC1:=Aside0.mk hc1
 clear hr hc hr1 hc1
 by_cases hl:layoutOk n l=0
 ·by_cases he:es.length≤2000
  ·skip
   have b0:(layoutOk n l != 0)=false:=bne_eq_false_iff_eq.mpr hl
   have b1:decide ((es.length:Int) > 2000)=false:=decide_eq_false (by omega)
   have HL:=Aside0.mk hl
   have HE:=Aside0.mk he
   have HN:=Aside0.mk (lay_n hl)
   clear hl he
   go_enter Tryd.func47,Tryd.ntmps47
   go_upto_region 5 with (first|((with_reducible refine gate_dst (N:=2) rfl ?_);refine box_event ?hg (N:=2) ?hd (cs:=#[.int .i64 n,.slice A l.length c]) (t:=31) ?hr ?_;(case hd=>rfl);(case hg=>rfl);(case hr=>first|(go_simp;done)|(go_simp;rfl));intro gl el wl kl bl;have hcz0:=(blk_cell kl 0).trans (show _=some (Value.int .i64 n) from rfl);have hcz1:=(blk_cell kl 1).trans (show _=some (Value.slice A l.length c) from rfl);have KL:=Aside0.mk kl;have BL:=Aside0.mk bl;have GL:=Aside0.mk (show w.heap.size≤gl by rw [el];exact Nat.le_refl _);clear kl bl el)|(go_at_call 30;refine (lay_is (Kd.C_below HR.out BL.out) HC.out).mono ?_;rintro e w1 ⟨rfl,hb⟩;have KL:=Aside0.mk (blk_below KL.out hb);have BL:=Aside0.mk (below_step BL.out hb);clear hb;have hcy0:=(blk_cell KL.out 0).trans (show _=some (Value.int .i64 n) from rfl);have hcy1:=(blk_cell KL.out 1).trans (show _=some (Value.slice A l.length c) from rfl))|(go_at_call 62;refine (begin_is (Kd.C_below HR.out BL.out) HC.out HL.out).mono ?_;rintro e w2 ⟨v1,v2,rfl,r1,r2,hb⟩;obtain ⟨a1,d1,rfl⟩:=Kd.R_slice r1;obtain ⟨a2,d2,rfl⟩:=Kd.R_slice r2;have R1:=Aside0.mk (Kd.R_lower r1 BL.out.size);have R2:=Aside0.mk (Kd.R_lower r2 BL.out.size);have KL:=Aside0.mk (blk_below KL.out hb);have BL:=Aside0.mk (below_step BL.out hb);clear hb r1 r2)|((with_reducible refine gate_dst (N:=6) rfl ?_);refine box_event ?hg (N:=6) ?hd (cs:=#[.bool false,.slice none 0 0,.slice none 0 0]) (t:=83) ?hr ?_;(case hd=>rfl);(case hg=>rfl);(case hr=>first|(go_simp;done)|(go_simp;rfl));intro gs es_ ws ks bs;have KS:=Aside0.mk ks;have ES:=Aside0.mk es_;have BS:=Aside0.mk bs;have zs0:=blk_frozen ks 0;have zs1:=blk_frozen ks 1;have zs2:=blk_frozen ks 2;have ks0:=(blk_cell ks 0).trans (show _=some (Value.bool false) from rfl);have ks1:=(blk_cell ks 1).trans (show _=some (Value.slice none 0 0) from rfl);have ks2:=(blk_cell ks 2).trans (show _=some (Value.slice none 0 0) from rfl);clear ks es_ bs))
   clear hcz0 hcz1 hcy0 hcy1
   have BX:=Aside0.mk (below_set (j:=2) (v:=.slice a2 (st0 n l).f2.length d2) (below_set (j:=1) (v:=.slice a1 (st0 n l).f1.length d1) (below_set (j:=0) (v:=.bool true) BS.out (Nat.le_of_eq ES.out.symm)) (Nat.le_of_eq ES.out.symm)) (Nat.le_of_eq ES.out.symm))
   have KX:=Aside0.mk (blk_put (blk_put (blk_put KS.out 0 (.bool true) rfl) 1 (.slice a1 (st0 n l).f1.length d1) rfl) 2 (.slice a2 (st0 n l).f2.length d2) rfl)
   have ST:=Aside0.mk (show RnSt w (((ws.setCell ⟨gs,0,none⟩ (.bool true)).setCell ⟨gs,1,none⟩ (.slice a1 (st0 n l).f1.length d1)).setCell ⟨gs,2,none⟩ (.slice a2 (st0 n l).f2.length d2)) gl gs [.int .i64 n,.slice A l.length c] [.bool true,.slice a1 (st0 n l).f1.length d1,.slice a2 (st0 n l).f2.length d2] (.slice a1 (st0 n l).f1.length d1) (.slice a2 (st0 n l).f2.length d2) (st0 n l) (.slice none 0 0) [] from ⟨blk_below KL.out BX.out,KX.out,Kd.V_below (Kd.R_V (Kd.R_tight rfl R1.out)) BX.out,Kd.V_below (Kd.R_V (Kd.R_tight rfl R2.out)) BX.out,Kd.S_nil _ _ _ _ _,below_step BL.out BX.out,GL.out,by rw [ES.out];exact BL.out.size⟩)
   clear KL BL R1 R2 KS ES BS zs0 zs1 zs2 ks0 ks1 ks2 BX KX
   generalize (((ws.setCell ⟨gs,0,none⟩ (.bool true)).setCell ⟨gs,1,none⟩ (.slice a1 (st0 n l).f1.length d1)).setCell ⟨gs,2,none⟩ (.slice a2 (st0 n l).f2.length d2))=wa at ST ⊢
   go_wp2_with fail
   go_loopg [5,22] es.length (fun kq vo v22 w'=>∃ j:Nat,v22=.int .i64 j∧Aside0 (j+kq=es.length)∧∃ u1 u2:Value,Aside0 (RnSt w w' gl gs [.int .i64 n,.slice A l.length c] [.bool true,u1,u2] u1 u2 (stAt n l es j) vo (runTo n l es j)))
   case atStart=>exact ⟨0,rfl,⟨by omega⟩,_,_,⟨by rw [stAt_zero];exact ST.out⟩⟩
   case round =>
    clear ST
    obtain ⟨j,rfl,HJ,u1,u2,ST⟩:=hrel
    by_cases hlt:j<es.length
    ·cases gk with
     | zero=>exact absurd HJ.out (by omega)
     | succ gk =>
      have hlt':decide ((j:Int)<(es.length:Int))=true:=decide_eq_true (by omega)
      have q0:(0:Int)≤(j:Int):=by omega
      have q1:(j:Int)<(es.length:Int):=by omega
      obtain ⟨a1,d1,e1⟩:=Kd.V_slice ST.out.V1
      obtain ⟨a2,d2,e2⟩:=Kd.V_slice ST.out.V2
      subst e1 e2
      obtain ⟨ad,e,x0,x1,x2⟩:=at_T52 HR1.out (j:Int) q0 q1
      subst e
      replace x0:=pw_cell_below ST.out.hB x0
      replace x1:=pw_cell_below ST.out.hB x1
      replace x2:=pw_cell_below ST.out.hB x2
      rw [Int.toNat_natCast] at x0 x1 x2
      have HSU:=Aside0.mk (stAt_succ n l es j hlt)
      have HRU:=Aside0.mk (runTo_succ n l es j)
      have HLT:=Aside0.mk (stAt_len n l es j)
      have HSO:=Aside0.mk (stAt_ok HL.out es j)
      generalize hx:rd_T52 es (j:Int)=x at x0 x1 x2 HSU HRU
      clear hx
      generalize hst:stAt n l es j=s at ST HSU HRU HLT HSO ⊢
      clear hst
      go_upto_region 8 with ((with_reducible refine gate_dst (N:=8) rfl ?_);refine box_event ?hg (N:=8) ?hd (cs:=#[.int .i64 0,.int .i64 0,.int .i64 0]) (t:=52) ?hr ?_;(case hd=>rfl);(case hg=>rfl);(case hr=>first|(go_simp;done)|(go_simp;rfl));intro ge ee we ke be;have KE:=Aside0.mk ke;have EE:=Aside0.mk ee;have BE:=Aside0.mk be;have z0:=blk_frozen ke 0;have z1:=blk_frozen ke 1;have z2:=blk_frozen ke 2;have c0_:=(blk_cell ke 0).trans (show _=some (Value.int .i64 0) from rfl);have c1_:=(blk_cell ke 1).trans (show _=some (Value.int .i64 0) from rfl);have c2_:=(blk_cell ke 2).trans (show _=some (Value.int .i64 0) from rfl);clear ke ee be)
      have KX:=Aside0.mk (blk_put (blk_put (blk_put KE.out 0 (.int .i64 x.f0) rfl) 1 (.int .i64 x.f1) rfl) 2 (.int .i64 x.f2) rfl)
      have BX:=Aside0.mk (below_set (j:=2) (v:=.int .i64 x.f2) (below_set (j:=1) (v:=.int .i64 x.f1) (below_set (j:=0) (v:=.int .i64 x.f0) BE.out (Nat.le_of_eq EE.out.symm)) (Nat.le_of_eq EE.out.symm)) (Nat.le_of_eq EE.out.symm))
      clear KE BE EE z0 z1 z2 c0_ c1_ c2_ x0 x1 x2
      generalize (((we.setCell ⟨ge,0,none⟩ (.int .i64 x.f0)).setCell ⟨ge,1,none⟩ (.int .i64 x.f1)).setCell ⟨ge,2,none⟩ (.int .i64 x.f2))=w8 at KX BX ⊢
      go_cut [9] from 24 to 33 (fun v9 wx=>∃ (gd:Nat) (b2 b3:Option Addr) (f2 f3:Nat),v9=.pointer (some ⟨gd,0,none⟩)∧Aside0 (MdSt w wr wx gl gs gd [.int .i64 n,.slice A l.length c] [.bool true,.slice a1 s.f1.length d1,.slice a2 s.f2.length d2] [.int .i64 1,.bool true,(.slice b2 s.f1.length f2),(.slice b3 s.f2.length f3)] (.slice b2 s.f1.length f2) (.slice b3 s.f2.length f3) s.f1 s.f2 u5 (runTo n l es j)∧Below wr.heap.size wr wx∧wx.heap[ge]?=some (.cells #[.int .i64 x.f0,.int .i64 x.f1,.int .i64 x.f2] 52 (0,0))))
      case first =>
       have f1:impl_Section.f s.f1=some s.f1:=by unfold impl_Section.f;rw [if_pos (by rw [HLT.out.1];have:=HN.out;omega)]
       have f2:slices_Clone_bool_bool.f s.f2=some s.f2:=by unfold slices_Clone_bool_bool.f;rw [if_pos (by rw [HLT.out.2.1];have:=HN.out;omega)]
       have F1:=Aside0.mk f1
       have F2:=Aside0.mk f2
       clear f1 f2
       have e1:w8.cell? ⟨gs,1,none⟩=some (.slice a1 s.f1.length d1):=(blk_cell (blk_below ST.out.hs BX.out) 1).trans rfl
       have e2:w8.cell? ⟨gs,2,none⟩=some (.slice a2 s.f2.length d2):=(blk_cell (blk_below ST.out.hs BX.out) 2).trans rfl
       have bx:=Aside0.mk BX.out
       have ke:=Aside0.mk KX.out
       have ksb:=Aside0.mk (blk_below ST.out.hs BX.out)
       have KD:True:=trivial
       have ng:True:=trivial
       go_region_held3 (fun w'=>w'.cell? ⟨gs,1,none⟩=some (.slice a1 s.f1.length d1)∧w'.cell? ⟨gs,2,none⟩=some (.slice a2 s.f2.length d2))
        (((with_reducible refine ⟨(blk_cell (cs:=#[.bool true,(.slice a1 s.f1.length d1),(.slice a2 s.f2.length d2)]) (t:=83) ?_ 1).trans ?_,(blk_cell (cs:=#[.bool true,(.slice a1 s.f1.length d1),(.slice a2 s.f2.length d2)]) (t:=83) ?_ 2).trans ?_⟩) <;> (first|with_reducible exact ksb.out|(with_reducible rfl)|(refine blk_below ksb.out ?_;(repeat (first|(with_reducible exact Below.refl _ _)|(with_reducible apply below_drew1)|(with_reducible apply below_alloc)));done)|(with_reducible refine blk_far ?_ (Ne.symm ng) _;with_reducible refine blk_far ?_ (Ne.symm ng) _;with_reducible refine blk_far ?_ (Ne.symm ng) _;with_reducible refine blk_far ?_ (Ne.symm ng) _;with_reducible exact ksb.out)|rfl)))
        (first|(go_at_call 63;refine (impl_Section.calls a1 d1 s.f1 s.f1 _ (Kd.V_reads' (Kd.V_below ST.out.V1 (by repeat (first|(with_reducible exact bx.out)|(with_reducible apply below_drew1)|(with_reducible apply below_alloc)|fail)))).2.2 (Kd.V_reads' ST.out.V1).2.1 F1.out).mono ?_;rintro e w' ⟨v1,rfl,ho1,hb⟩;obtain ⟨v1_a,v1_c,rfl⟩:=Kd.R_slice ho1;have HO1:=Aside0.mk (Kd.R_lower (base':=wr.heap.size) ho1 (show Below wr.heap.size wr _ from (by repeat (first|(with_reducible exact bx.out)|(with_reducible apply below_drew1)|(with_reducible apply below_alloc)|fail))).size);(first|(have HO2:=Aside0.mk (R_up HO2.out (by first|with_reducible exact hb|exact below_step (by repeat (first|(with_reducible exact Below.refl _ _)|(with_reducible apply below_drew1)|(with_reducible apply below_alloc)|fail)) hb|fail)))|skip);(first|(have KD:=Aside0.mk (blk_below KD.out hb))|(have KD:=Aside0.mk (by with_reducible exact alloc_blk hb);have GD:=Aside0.mk bx.out.size)|(have KD:=Aside0.mk (by with_reducible exact alloc_blk_drew hb);have GD:=Aside0.mk bx.out.size)|skip);(try (have zd0:=blk_frozen KD.out 0;have zd1:=blk_frozen KD.out 1;have zd2:=blk_frozen KD.out 2;have zd3:=blk_frozen KD.out 3;have kd0:=(blk_cell KD.out 0).trans (show _=some (Value.int .i64 0) from rfl);have kd1:=(blk_cell KD.out 1).trans (show _=some (Value.bool false) from rfl);have kd2:=(blk_cell KD.out 2).trans (show _=some (Value.slice none 0 0) from rfl);have kd3:=(blk_cell KD.out 3).trans (show _=some (Value.slice none 0 0) from rfl)));have ke:=Aside0.mk (blk_below ke.out (by first|with_reducible exact hb|exact below_step (by repeat (first|(with_reducible exact Below.refl _ _)|(with_reducible apply below_drew1)|(with_reducible apply below_alloc)|fail)) hb|fail));have ksb:=Aside0.mk (blk_below ksb.out (by first|with_reducible exact hb|exact below_step (by repeat (first|(with_reducible exact Below.refl _ _)|(with_reducible apply below_drew1)|(with_reducible apply below_alloc)|fail)) hb|fail));(try (have ng:=blk_ne KD.out ksb.out (by decide)));have bx:=Aside0.mk (below_step bx.out (by first|with_reducible exact hb|exact below_step (by repeat (first|(with_reducible exact Below.refl _ _)|(with_reducible apply below_drew1)|(with_reducible apply below_alloc)|fail)) hb|fail));clear hb ho1)|(go_at_call 64;refine (slices_Clone_bool_bool.calls a2 d2 s.f2 s.f2 _ (Kd.V_reads' (Kd.V_below ST.out.V2 (by repeat (first|(with_reducible exact bx.out)|(with_reducible apply below_drew1)|(with_reducible apply below_alloc)|fail)))).2.2 (Kd.V_reads' ST.out.V2).2.1 F2.out).mono ?_;rintro e w' ⟨v2,rfl,ho2,hb⟩;obtain ⟨v2_a,v2_c,rfl⟩:=Kd.R_slice ho2;have HO2:=Aside0.mk (Kd.R_lower (base':=wr.heap.size) ho2 (show Below wr.heap.size wr _ from (by repeat (first|(with_reducible exact bx.out)|(with_reducible apply below_drew1)|(with_reducible apply below_alloc)|fail))).size);(first|(have HO1:=Aside0.mk (R_up HO1.out (by first|with_reducible exact hb|exact below_step (by repeat (first|(with_reducible exact Below.refl _ _)|(with_reducible apply below_drew1)|(with_reducible apply below_alloc)|fail)) hb|fail)))|skip);(first|(have KD:=Aside0.mk (blk_below KD.out hb))|(have KD:=Aside0.mk (by with_reducible exact alloc_blk hb);have GD:=Aside0.mk bx.out.size)|(have KD:=Aside0.mk (by with_reducible exact alloc_blk_drew hb);have GD:=Aside0.mk bx.out.size)|skip);(try (have zd0:=blk_frozen KD.out 0;have zd1:=blk_frozen KD.out 1;have zd2:=blk_frozen KD.out 2;have zd3:=blk_frozen KD.out 3;have kd0:=(blk_cell KD.out 0).trans (show _=some (Value.int .i64 0) from rfl);have kd1:=(blk_cell KD.out 1).trans (show _=some (Value.bool false) from rfl);have kd2:=(blk_cell KD.out 2).trans (show _=some (Value.slice none 0 0) from rfl);have kd3:=(blk_cell KD.out 3).trans (show _=some (Value.slice none 0 0) from rfl)));have ke:=Aside0.mk (blk_below ke.out (by first|with_reducible exact hb|exact below_step (by repeat (first|(with_reducible exact Below.refl _ _)|(with_reducible apply below_drew1)|(with_reducible apply below_alloc)|fail)) hb|fail));have ksb:=Aside0.mk (blk_below ksb.out (by first|with_reducible exact hb|exact below_step (by repeat (first|(with_reducible exact Below.refl _ _)|(with_reducible apply below_drew1)|(with_reducible apply below_alloc)|fail)) hb|fail));(try (have ng:=blk_ne KD.out ksb.out (by decide)));have bx:=Aside0.mk (below_step bx.out (by first|with_reducible exact hb|exact below_step (by repeat (first|(with_reducible exact Below.refl _ _)|(with_reducible apply below_drew1)|(with_reducible apply below_alloc)|fail)) hb|fail));clear hb ho2))
       all_goals (go_wp2_with fail;go_meet)
       all_goals first|exact ⟨_,_,_,_,_,rfl,⟨(ST.out.midA bx.out HO1.out HO2.out).1,(ST.out.midA bx.out HO1.out HO2.out).2,blk_below ke.out (below_alloc (Below.refl _ _) _)⟩⟩|exact ⟨_,_,_,_,_,rfl,⟨(ST.out.midB bx.out KD.out GD.out HO1.out HO2.out).1,(ST.out.midB bx.out KD.out GD.out HO1.out HO2.out).2,blk_far (blk_far (blk_far (blk_far ke.out (blk_ne ke.out KD.out (by decide)) _) (blk_ne ke.out KD.out (by decide)) _) (blk_ne ke.out KD.out (by decide)) _) (blk_ne ke.out KD.out (by decide)) _⟩⟩
      case rest =>
       obtain ⟨gd,b2,b3,f2,f3,rfl,HM⟩:=hcut
       clear KX BX
       have kl0:wc.cell? ⟨gl,0,none⟩=some (.int .i64 n):=(blk_cell HM.out.1.hl 0).trans rfl
       have kl1:wc.cell? ⟨gl,1,none⟩=some (.slice A l.length c):=(blk_cell HM.out.1.hl 1).trans rfl
       have ke0:wc.cell? ⟨ge,0,none⟩=some (.int .i64 x.f0):=(blk_cell HM.out.2.2 0).trans rfl
       have ke1:wc.cell? ⟨ge,1,none⟩=some (.int .i64 x.f1):=(blk_cell HM.out.2.2 1).trans rfl
       have ke2:wc.cell? ⟨ge,2,none⟩=some (.int .i64 x.f2):=(blk_cell HM.out.2.2 2).trans rfl
       have ks0:wc.cell? ⟨gs,0,none⟩=some (.bool true):=(blk_cell HM.out.1.hs 0).trans rfl
       have ks1:wc.cell? ⟨gs,1,none⟩=some (.slice a1 s.f1.length d1):=(blk_cell HM.out.1.hs 1).trans rfl
       have ks2:wc.cell? ⟨gs,2,none⟩=some (.slice a2 s.f2.length d2):=(blk_cell HM.out.1.hs 2).trans rfl
       cases hok:eventOk n l x.f0 x.f1 x.f2 with
       | false =>
        have HO:=Aside0.mk hok
        clear hok
        have HST:=Aside0.mk (show runStep n l s x=⟨1,⟨true,s.f1,s.f2⟩⟩ by unfold runStep;rw [HO.out];rfl)
        go_upto_region 11 with (go_at_call 31;refine (ev_at x.f0 x.f1 x.f2 HO.out (Kd.C_below HR.out HM.out.1.hB) HC.out).mono ?_;rintro e wd ⟨rfl,hb⟩;have HM2:=Aside0.mk (And.intro (HM.out.1.up hb) (And.intro (below_step HM.out.2.1 hb) (blk_below HM.out.2.2 hb)));clear hb;have kd0:wd.cell? ⟨gd,0,none⟩=some (.int .i64 1):=(blk_cell HM2.out.1.hd 0).trans rfl;have kd1:wd.cell? ⟨gd,1,none⟩=some (.bool true):=(blk_cell HM2.out.1.hd 1).trans rfl;have kd2:wd.cell? ⟨gd,2,none⟩=some (.slice b2 s.f1.length f2):=(blk_cell HM2.out.1.hd 2).trans rfl;have kd3:wd.cell? ⟨gd,3,none⟩=some (.slice b3 s.f2.length f3):=(blk_cell HM2.out.1.hd 3).trans rfl)
        clear kl0 kl1 ke0 ke1 ke2 ks0 ks1 ks2
        go_wp2_with (at_builtin;refine Kd.S_append k85 (w0:=w) w.heap.size rfl (.tmp 41) (.tmp 43) 78 85 (.agg #[.int .i64 0,.bool false,.slice none 0 0,.slice none 0 0]) 64 rfl Tryd.underlying78 info85 rfl (by decide) (by decide) u5 (runTo n l es j) ⟨1,⟨true,s.f1,s.f2⟩⟩ [.int .i64 (1),.bool true,(.slice b2 s.f1.length f2),(.slice b3 s.f2.length f3)] (fun _=>True) (okp (.slice b2 s.f1.length f2) (.slice b3 s.f2.length f3)) rfl rfl (HM2.out.1.elem (1) true) (fun k hk=>⟨trivial,HM2.out.1.okp_ne hk⟩) (fun _ _=>trivial) HM2.out.1.rest HM2.out.1.hB HM2.out.1.hB.size (by rw [runTo_length];have:=HE.out;omega) ?_;intro vn wn hsn hbn hgn _;have HSN:=Aside0.mk hsn;have HBN:=Aside0.mk hbn;have HGN:=Aside0.mk hgn;have KD:=Aside0.mk (HM2.out.1.at_ hgn).1;have KS:=Aside0.mk (HM2.out.1.at_ hgn).2;clear hsn hbn hgn;have kd0:wn.cell? ⟨gd,0,none⟩=some (.int .i64 (1)):=(blk_cell KD.out 0).trans rfl;have kd1:wn.cell? ⟨gd,1,none⟩=some (.bool true):=(blk_cell KD.out 1).trans rfl;have kd2:wn.cell? ⟨gd,2,none⟩=some (.slice b2 s.f1.length f2):=(blk_cell KD.out 2).trans rfl;have kd3:wn.cell? ⟨gd,3,none⟩=some (.slice b3 s.f2.length f3):=(blk_cell KD.out 3).trans rfl;have kt0:wn.cell? ⟨gs,0,none⟩=some (.bool true):=(blk_cell KS.out 0).trans rfl;have kt1:wn.cell? ⟨gs,1,none⟩=some (.slice a1 s.f1.length d1):=(blk_cell KS.out 1).trans rfl;have kt2:wn.cell? ⟨gs,2,none⟩=some (.slice a2 s.f2.length d2):=(blk_cell KS.out 2).trans rfl;have zt0:=blk_frozen KS.out 0;have zt1:=blk_frozen KS.out 1;have zt2:=blk_frozen KS.out 2)
        have SN:=Aside0.mk (HM2.out.1.fin HSN.out HBN.out HGN.out)
        go_roundg gk
        case measure=>omega
        case rel=>exact ⟨j+1,congrArg (Value.int .i64) (wrap_succ (by have:=HE.out;omega)),⟨by have:=HJ.out;omega⟩,_,_,⟨by rw [HSU.out,HRU.out,HST.out];exact SN.out⟩⟩
       | true =>
        have HO:=Aside0.mk hok
        clear hok
        have HST:=Aside0.mk (show runStep n l s x=⟨doCode l s.f1 s.f2 x.f0 x.f1,⟨true,doSecs l s.f1 s.f2 x.f0 x.f1 x.f2,doDead l s.f1 s.f2 x.f0 x.f1⟩⟩ by unfold runStep;rw [if_pos HO.out])
        go_upto_region 11 with (first|(go_at_call 31;refine (ev_at x.f0 x.f1 x.f2 HO.out (Kd.C_below HR.out HM.out.1.hB) HC.out).mono ?_;rintro e wd ⟨rfl,hb⟩;have HM2:=Aside0.mk (And.intro (HM.out.1.up hb) (And.intro (below_step HM.out.2.1 hb) (blk_below HM.out.2.2 hb)));clear hb;have kl0:wd.cell? ⟨gl,0,none⟩=some (.int .i64 n):=(blk_cell HM2.out.1.hl 0).trans rfl;have kl1:wd.cell? ⟨gl,1,none⟩=some (.slice A l.length c):=(blk_cell HM2.out.1.hl 1).trans rfl;have ke0:wd.cell? ⟨ge,0,none⟩=some (.int .i64 x.f0):=(blk_cell HM2.out.2.2 0).trans rfl;have ke1:wd.cell? ⟨ge,1,none⟩=some (.int .i64 x.f1):=(blk_cell HM2.out.2.2 1).trans rfl;have ke2:wd.cell? ⟨ge,2,none⟩=some (.int .i64 x.f2):=(blk_cell HM2.out.2.2 2).trans rfl;have ks0:wd.cell? ⟨gs,0,none⟩=some (.bool true):=(blk_cell HM2.out.1.hs 0).trans rfl;have ks1:wd.cell? ⟨gs,1,none⟩=some (.slice a1 s.f1.length d1):=(blk_cell HM2.out.1.hs 1).trans rfl;have ks2:wd.cell? ⟨gs,2,none⟩=some (.slice a2 s.f2.length d2):=(blk_cell HM2.out.1.hs 2).trans rfl)|(go_at_call 65;refine (do_is n A c l true a1 d1 s.f1 a2 d2 s.f2 x.f0 x.f1 x.f2 _ (Kd.C_below HR.out HM2.out.1.hB) HC.out (Kd.V_reads' (Kd.V_below ST.out.V1 HM2.out.2.1)).2.2 (Kd.V_reads' ST.out.V1).2.1 (Kd.V_reads' (Kd.V_below ST.out.V2 HM2.out.2.1)).2.2 (Kd.V_reads' ST.out.V2).2.1 HL.out (by rw [HLT.out.1];have:=HN.out;omega) HLT.out.2.1 HO.out).mono ?_;rintro e wf ⟨v2,v3,rfl,r1,r2,hb⟩;obtain ⟨b4,f4,rfl⟩:=Kd.R_slice r1;obtain ⟨b5,f5,rfl⟩:=Kd.R_slice r2;have KD:=Aside0.mk (blk_below HM2.out.1.hd hb);have NR1:=Aside0.mk (Kd.R_lower r1 HM2.out.2.1.size);have NR2:=Aside0.mk (Kd.R_lower r2 HM2.out.2.1.size);have BF:=Aside0.mk (below_step HM2.out.2.1 hb);clear r1 r2 hb;have kd0:wf.cell? ⟨gd,0,none⟩=some (.int .i64 1):=(blk_cell KD.out 0).trans rfl;have kd1:wf.cell? ⟨gd,1,none⟩=some (.bool true):=(blk_cell KD.out 1).trans rfl;have kd2:wf.cell? ⟨gd,2,none⟩=some (.slice b2 s.f1.length f2):=(blk_cell KD.out 2).trans rfl;have kd3:wf.cell? ⟨gd,3,none⟩=some (.slice b3 s.f2.length f3):=(blk_cell KD.out 3).trans rfl;have zd0:=blk_frozen KD.out 0;have zd1:=blk_frozen KD.out 1;have zd2:=blk_frozen KD.out 2;have zd3:=blk_frozen KD.out 3))
        clear kl0 kl1 ke0 ke1 ke2 ks0 ks1 ks2 kd0 kd1 kd2 kd3 zd0 zd1 zd2 zd3
        have HM3:=Aside0.mk (ST.out.midB (code:=(doCode l s.f1 s.f2 x.f0 x.f1)) (b:=true) BF.out KD.out HM2.out.1.gde NR1.out NR2.out)
        clear HM HM2 KD NR1 NR2 BF
        generalize ((((wf.setCell ⟨gd,0,none⟩ (.int .i64 (doCode l s.f1 s.f2 x.f0 x.f1))).setCell ⟨gd,1,none⟩ (.bool true)).setCell ⟨gd,2,none⟩ (.slice b4 (doSecs l s.f1 s.f2 x.f0 x.f1 x.f2).length f4)).setCell ⟨gd,3,none⟩ (.slice b5 (doDead l s.f1 s.f2 x.f0 x.f1).length f5))=wg at HM3 ⊢
        have kd0:wg.cell? ⟨gd,0,none⟩=some (.int .i64 (doCode l s.f1 s.f2 x.f0 x.f1)):=(blk_cell HM3.out.1.hd 0).trans rfl
        have kd1:wg.cell? ⟨gd,1,none⟩=some (.bool true):=(blk_cell HM3.out.1.hd 1).trans rfl
        have kd2:wg.cell? ⟨gd,2,none⟩=some (.slice b4 (doSecs l s.f1 s.f2 x.f0 x.f1 x.f2).length f4):=(blk_cell HM3.out.1.hd 2).trans rfl
        have kd3:wg.cell? ⟨gd,3,none⟩=some (.slice b5 (doDead l s.f1 s.f2 x.f0 x.f1).length f5):=(blk_cell HM3.out.1.hd 3).trans rfl
        go_wp2_with (at_builtin;refine Kd.S_append k85 (w0:=w) w.heap.size rfl (.tmp 41) (.tmp 43) 78 85 (.agg #[.int .i64 0,.bool false,.slice none 0 0,.slice none 0 0]) 64 rfl Tryd.underlying78 info85 rfl (by decide) (by decide) u5 (runTo n l es j) ⟨(doCode l s.f1 s.f2 x.f0 x.f1),⟨true,doSecs l s.f1 s.f2 x.f0 x.f1 x.f2,doDead l s.f1 s.f2 x.f0 x.f1⟩⟩ [.int .i64 ((doCode l s.f1 s.f2 x.f0 x.f1)),.bool true,(.slice b4 (doSecs l s.f1 s.f2 x.f0 x.f1 x.f2).length f4),(.slice b5 (doDead l s.f1 s.f2 x.f0 x.f1).length f5)] (fun _=>True) (okp (.slice b4 (doSecs l s.f1 s.f2 x.f0 x.f1 x.f2).length f4) (.slice b5 (doDead l s.f1 s.f2 x.f0 x.f1).length f5)) rfl rfl (HM3.out.1.elem ((doCode l s.f1 s.f2 x.f0 x.f1)) true) (fun k hk=>⟨trivial,HM3.out.1.okp_ne hk⟩) (fun _ _=>trivial) HM3.out.1.rest HM3.out.1.hB HM3.out.1.hB.size (by rw [runTo_length];have:=HE.out;omega) ?_;intro vn wn hsn hbn hgn _;have HSN:=Aside0.mk hsn;have HBN:=Aside0.mk hbn;have HGN:=Aside0.mk hgn;have KD:=Aside0.mk (HM3.out.1.at_ hgn).1;have KS:=Aside0.mk (HM3.out.1.at_ hgn).2;clear hsn hbn hgn;have kd0:wn.cell? ⟨gd,0,none⟩=some (.int .i64 ((doCode l s.f1 s.f2 x.f0 x.f1))):=(blk_cell KD.out 0).trans rfl;have kd1:wn.cell? ⟨gd,1,none⟩=some (.bool true):=(blk_cell KD.out 1).trans rfl;have kd2:wn.cell? ⟨gd,2,none⟩=some (.slice b4 (doSecs l s.f1 s.f2 x.f0 x.f1 x.f2).length f4):=(blk_cell KD.out 2).trans rfl;have kd3:wn.cell? ⟨gd,3,none⟩=some (.slice b5 (doDead l s.f1 s.f2 x.f0 x.f1).length f5):=(blk_cell KD.out 3).trans rfl;have kt0:wn.cell? ⟨gs,0,none⟩=some (.bool true):=(blk_cell KS.out 0).trans rfl;have kt1:wn.cell? ⟨gs,1,none⟩=some (.slice a1 s.f1.length d1):=(blk_cell KS.out 1).trans rfl;have kt2:wn.cell? ⟨gs,2,none⟩=some (.slice a2 s.f2.length d2):=(blk_cell KS.out 2).trans rfl;have zt0:=blk_frozen KS.out 0;have zt1:=blk_frozen KS.out 1;have zt2:=blk_frozen KS.out 2)
        have SN:=Aside0.mk (HM3.out.1.fin HSN.out HBN.out HGN.out)
        go_roundg gk
        case measure=>omega
        case rel=>exact ⟨j+1,congrArg (Value.int .i64) (wrap_succ (by have:=HE.out;omega)),⟨by have:=HJ.out;omega⟩,_,_,⟨by rw [HSU.out,HRU.out,HST.out];exact SN.out⟩⟩
    have hlt':decide ((j:Int)<(es.length:Int))=false:=decide_eq_false (by omega)
    have hj:j=es.length:=by have:=HJ.out;omega
    have HRN:=Aside0.mk (show runTo n l es j=run n l es by rw [run,if_pos ⟨HL.out,HE.out⟩,hj])
    clear hj
    go_wp2_with fail
    go_ret
    exact ⟨_,rfl,HRN.out ▸ ST.out.HS,ST.out.hB⟩
  skip
  have b0:(layoutOk n l != 0)=false:=bne_eq_false_iff_eq.mpr hl
  have b1:decide ((es.length:Int) > 2000)=true:=decide_eq_true (by omega)
  have HV:=Aside0.mk (show ([]:List S85)=run n l es by rw [run,if_neg (fun h=>he h.2)])
  clear hl he
  go_enter Tryd.func47,Tryd.ntmps47
  go_wp2_with (first|((with_reducible refine gate_dst (N:=2) rfl ?_);refine box_event ?hg (N:=2) ?hd (cs:=#[.int .i64 n,.slice A l.length c]) (t:=31) ?hr ?_;(case hd=>rfl);(case hg=>rfl);(case hr=>first|(go_simp;done)|(go_simp;rfl));intro gl el wl kl bl;have hcz0:=(blk_cell kl 0).trans (show _=some (Value.int .i64 n) from rfl);have hcz1:=(blk_cell kl 1).trans (show _=some (Value.slice A l.length c) from rfl);have KL:=Aside0.mk kl;have BL:=Aside0.mk bl;have GL:=Aside0.mk (show w.heap.size≤gl by rw [el];exact Nat.le_refl _);clear kl bl el)|(go_at_call 30;refine (lay_is (Kd.C_below HR.out BL.out) HC.out).mono ?_;rintro e w1 ⟨rfl,hb⟩;have KL:=Aside0.mk (blk_below KL.out hb);have BL:=Aside0.mk (below_step BL.out hb);clear hb;have hcy0:=(blk_cell KL.out 0).trans (show _=some (Value.int .i64 n) from rfl);have hcy1:=(blk_cell KL.out 1).trans (show _=some (Value.slice A l.length c) from rfl)))
  go_ret
  exact ⟨_,rfl,HV.out ▸ Kd.S_nil _ _ _ _ _,BL.out⟩
 skip
 have b0:(layoutOk n l != 0)=true:=bne_iff_ne.mpr hl
 have HV:=Aside0.mk (show ([]:List S85)=run n l es by rw [run,if_neg (fun h=>hl h.1)])
 clear hl
 go_enter Tryd.func47,Tryd.ntmps47
 go_wp2_with (first|((with_reducible refine gate_dst (N:=2) rfl ?_);refine box_event ?hg (N:=2) ?hd (cs:=#[.int .i64 n,.slice A l.length c]) (t:=31) ?hr ?_;(case hd=>rfl);(case hg=>rfl);(case hr=>first|(go_simp;done)|(go_simp;rfl));intro gl el wl kl bl;have hcz0:=(blk_cell kl 0).trans (show _=some (Value.int .i64 n) from rfl);have hcz1:=(blk_cell kl 1).trans (show _=some (Value.slice A l.length c) from rfl);have KL:=Aside0.mk kl;have BL:=Aside0.mk bl;have GL:=Aside0.mk (show w.heap.size≤gl by rw [el];exact Nat.le_refl _);clear kl bl el)|(go_at_call 30;refine (lay_is (Kd.C_below HR.out BL.out) HC.out).mono ?_;rintro e w1 ⟨rfl,hb⟩;have KL:=Aside0.mk (blk_below KL.out hb);have BL:=Aside0.mk (below_step BL.out hb);clear hb;have hcy0:=(blk_cell KL.out 0).trans (show _=some (Value.int .i64 n) from rfl);have hcy1:=(blk_cell KL.out 1).trans (show _=some (Value.slice A l.length c) from rfl)))
 go_ret
 exact ⟨_,rfl,HV.out ▸ Kd.S_nil _ _ _ _ _,BL.out⟩
end Go.Proofs.YtpdnabhpkdchjaaDoor.P
namespace Go.Proofs.YtpdnabhpkdchjaaDoor.P
open Go Go.RowKit Go.Proofs.YtpdnabhpkdchjaaDoorW.PrintWords Go.Proofs.YtpdnabhpkdchjaaDoorW.PrintLast Go.Proofs.YtpdnabhpkdchjaaDoorW.PrintMore
set_option linter.unusedVariables false
set_option linter.unusedSimpArgs false
def an_T3:Bool × List (List Nat × List Nat):=(true,[([],[]),([0],[0]),([1],[1]),([2],[2]),([3],[3]),([],[]),([5],[5]),([6,2],[6]),([4,7],[4,7]),([8],[8]),([9,7,0,1,2,3,4,5,6,7,8,9],[9])])
def an_B3:List Nat:=[0,1,3,7,15,0,32,103,255,511,1023]
theorem an_tab3:rtab .any (opsOf Tryd.f22 3)=an_T3:=by kernel_rfl
theorem an_bits3:waitsOk an_T3.2 an_B3=true:=by kernel_rfl
section
variable {w w' : World} {g t : Nat}
theorem fill4e {x0 x1 x2 x3 y0 y1 y2 y3:Value} (hx:w'.heap[g]?=some (.cells #[x0,x1,x2,x3] t (0,0))) (hb:Below w.heap.size w w') (hg:w.heap.size≤g) :
  Below w.heap.size w ((((w'.setCell ⟨g,0,none⟩ y0).setCell ⟨g,1,none⟩ y1).setCell ⟨g,2,none⟩ y2).setCell ⟨g,3,none⟩ y3)∧((((w'.setCell ⟨g,0,none⟩ y0).setCell ⟨g,1,none⟩ y1).setCell ⟨g,2,none⟩ y2).setCell ⟨g,3,none⟩ y3).heap[g]?=some (.cells #[y0,y1,y2,y3] t (0,0)) :=
 ⟨below_set (j:=3) (v:=y3) (below_set (j:=2) (v:=y2) (below_set (j:=1) (v:=y1) (below_set (j:=0) (v:=y0) hb hg) hg) hg) hg,blk_put (blk_put (blk_put (blk_put hx 0 y0 rfl) 1 y1 rfl) 2 y2 rfl) 3 y3 rfl⟩
theorem fill5e {x0 x1 x2 x3 x4 y0 y1 y2 y3 y4:Value} (hx:w'.heap[g]?=some (.cells #[x0,x1,x2,x3,x4] t (0,0))) (hb:Below w.heap.size w w') (hg:w.heap.size≤g) :
  Below w.heap.size w (((((w'.setCell ⟨g,0,none⟩ y0).setCell ⟨g,1,none⟩ y1).setCell ⟨g,2,none⟩ y2).setCell ⟨g,3,none⟩ y3).setCell ⟨g,4,none⟩ y4)∧(((((w'.setCell ⟨g,0,none⟩ y0).setCell ⟨g,1,none⟩ y1).setCell ⟨g,2,none⟩ y2).setCell ⟨g,3,none⟩ y3).setCell ⟨g,4,none⟩ y4).heap[g]?=some (.cells #[y0,y1,y2,y3,y4] t (0,0)) :=
 ⟨below_set (j:=4) (v:=y4) (below_set (j:=3) (v:=y3) (below_set (j:=2) (v:=y2) (below_set (j:=1) (v:=y1) (below_set (j:=0) (v:=y0) hb hg) hg) hg) hg) hg,blk_put (blk_put (blk_put (blk_put (blk_put hx 0 y0 rfl) 1 y1 rfl) 2 y2 rfl) 3 y3 rfl) 4 y4 rfl⟩
end
theorem wbyte_at {k:Int} (B b:Nat) (l:List UInt8) (c:UInt8) (w:World) (hk:k=(c.toNat:Int)) (h:Lib.IsBuilderF 61 5 B b (Lib.byteCells l) w) (hlen:l.length+1≤140737488355328) (hBw:B≤w.heap.size) :
  Calls Tryd.prog 48 #[.pointer (some ⟨b,0,none⟩),.int .u8 k] w fun e w'=>e=.returned .nilIface∧Lib.IsBuilderF 61 5 B b (Lib.byteCells (l ++ [c])) w'∧Below B w w'∧Lib.OthersKept 5 (some b) w w':=by
 rw [hk]
 exact wbyte_is B b l c w h hlen hBw
theorem dig_app (a:List UInt8) (dg:ByteArray) (m:List UInt8) (h:dg=⟨m.toArray⟩):a ++ (dg ++ (⟨#[32]⟩:ByteArray)).data.toList=a ++ (m ++ [32]):=by
 rw [h]
 have e1:(⟨#[32]⟩:ByteArray)=⟨([32]:List UInt8).toArray⟩:=rfl
 rw [e1,bytes_app]
theorem wrong_app (d1 d2:ByteArray) (c d:Int) (h1:d1=⟨(Lib.decDigits c.toNat).toArray⟩) (h2:d2=⟨(Lib.decDigits d.toNat).toArray⟩) :
  (((((⟨#[119,114,111,110,103,32]⟩:ByteArray) ++ d1) ++ ⟨#[32]⟩) ++ d2) ++ ⟨#[10]⟩)=bs (wrongB c d):=by
 rw [h1,h2]
 have e1:(⟨#[32]⟩:ByteArray)=⟨([32]:List UInt8).toArray⟩:=rfl
 have e2:(⟨#[10]⟩:ByteArray)=⟨([10]:List UInt8).toArray⟩:=rfl
 have e3:(⟨#[119,114,111,110,103,32]⟩:ByteArray)=⟨([119,114,111,110,103,32]:List UInt8).toArray⟩:=rfl
 rw [e1,e2,e3,bytes_app,bytes_app,bytes_app,bytes_app]
 rfl
set_option maxHeartbeats 8000000 in
set_option maxRecDepth 100000 in
theorem ians_is {T:Addr} {tc:Nat} (n:Int) (A:Option Addr) (c:Nat) (l:List S98) (s:List UInt8) (tx:ByteArray) (htx:tx=bs s) (w:World) (hr:Kd.C k98 w A l.length l) (hc:l.length≤c) (hT:Tabs T tc w) :
  Calls Tryd.prog 22 #[.agg #[.int .i64 n,.slice A l.length c],.string tx] w fun e w'=>e=.returned (.string (bs (ansE n l s)))∧Below w.heap.size w w':=by
 obtain ⟨⟨rc,rd,es⟩,hrr⟩:∃ r,readE n l s=r:=⟨_,rfl⟩
 have hf:=readE_form n l s
 rw [hrr] at hf
 have RF:=Aside0.mk hf
 have HA0:=Aside0.mk (show rc=0→ansE n l s=ansTo (run n l es) (run n l es).length by intro h;unfold ansE;rw [hrr];exact if_pos h)
 have HA1:=Aside0.mk (show rc ≠ 0→ansE n l s=wrongB rc rd by intro h;unfold ansE;rw [hrr];exact if_neg h)
 have IRD:=Aside0.mk (show ∀ w:World,Kd.C k98 w A l.length l→Tabs T tc w→Calls Tryd.prog 16 #[.agg #[.int .i64 n,.slice A l.length c],.string tx] w fun e w'=>∃ v2_:Value,e=.returned (.agg #[.int .i64 rc,.int .i64 rd,v2_])∧Kd.R k52 52 w' w.heap.size (fun _=>True) v2_ es∧Below w.heap.size w w' from fun w h1 h2=>by have:=iread_is n A c l s tx htx w h1 hc h2;rw [hrr] at this;exact this)
 have HR:=Aside0.mk hr
 have HC:=Aside0.mk hc
 have HTX:=Aside0.mk (fun (w':World) (h:Below w.heap.size w w')=>hT.nx h)
 have HT:=Aside0.mk hT
 clear hr hc hT htx hrr hf
 go_enter Tryd.func22,Tryd.ntmps22
 go_upto_region 1 with ((with_reducible refine gate_dst (N:=2) rfl ?_);refine box_event ?hg (N:=2) ?hd (cs:=#[.int .i64 n,.slice A l.length c]) (t:=31) ?hr ?_;(case hd=>rfl);(case hg=>rfl);(case hr=>first|(go_simp;done)|(go_simp;rfl));intro gl el wl kl bl;have EL:=Aside0.mk el;have KL:=Aside0.mk kl;have BL:=Aside0.mk bl;clear el kl bl;have kl0:wl.cell? ⟨gl,0,none⟩=some (.int .i64 n):=(blk_cell KL.out 0).trans rfl;have zkl0:=blk_frozen KL.out 0;have kl1:wl.cell? ⟨gl,1,none⟩=some (.slice A l.length c):=(blk_cell KL.out 1).trans rfl;have zkl1:=blk_frozen KL.out 1)
 go_upto_region 2 with (first|(go_at_call 16;refine (IRD.out _ (Kd.C_below HR.out BL.out) (HT.out.nx BL.out)).mono ?_;rintro e w1 ⟨v2,rfl,hs,hb⟩;obtain ⟨A2,c2,rfl⟩:=Kd.R_slice hs;have RE:=Aside0.mk (Kd.R_reads' hs);have B1:=Aside0.mk (below_step BL.out hb);have KL:=Aside0.mk (blk_below KL.out hb);clear hs hb kl0 zkl0 kl1 zkl1)|((with_reducible refine gate_dst (N:=5) rfl ?_);refine box_event ?hg (N:=5) ?hd (cs:=#[.int .i64 0,.int .i64 0,.slice none 0 0]) (t:=39) ?hr ?_;(case hd=>rfl);(case hg=>rfl);(case hr=>first|(go_simp;done)|(go_simp;rfl));intro gh eh wh kh bh;have EH:=Aside0.mk eh;have KH:=Aside0.mk kh;have BH:=Aside0.mk bh;clear eh kh bh;have kh0:wh.cell? ⟨gh,0,none⟩=some (.int .i64 0):=(blk_cell KH.out 0).trans rfl;have zkh0:=blk_frozen KH.out 0;have kh1:wh.cell? ⟨gh,1,none⟩=some (.int .i64 0):=(blk_cell KH.out 1).trans rfl;have zkh1:=blk_frozen KH.out 1;have kh2:wh.cell? ⟨gh,2,none⟩=some (.slice none 0 0):=(blk_cell KH.out 2).trans rfl;have zkh2:=blk_frozen KH.out 2))
 have FX:=Aside0.mk (fill3e (y0:=.int .i64 rc) (y1:=.int .i64 rd) (y2:=.slice A2 es.length c2) KH.out BH.out (Nat.le_of_eq EH.out.symm))
 clear kh0 zkh0 kh1 zkh1 kh2 zkh2 KH BH EH
 generalize (((wh.setCell ⟨gh,0,none⟩ (.int .i64 rc)).setCell ⟨gh,1,none⟩ (.int .i64 rd)).setCell ⟨gh,2,none⟩ (.slice A2 es.length c2))=w3 at FX ⊢
 have KH:=Aside0.mk FX.out.2
 have KL:=Aside0.mk (blk_below KL.out FX.out.1)
 have RE:=Aside0.mk (And.intro RE.out.2.1 (Kd.C_below RE.out.2.2 FX.out.1))
 have BB:=Aside0.mk (below_step B1.out FX.out.1)
 clear FX BL B1
 have HT:=Aside0.mk (HT.out.nx BB.out)
 have kh0:w3.cell? ⟨gh,0,none⟩=some (.int .i64 rc):=(blk_cell KH.out 0).trans rfl
 have kh1:w3.cell? ⟨gh,1,none⟩=some (.int .i64 rd):=(blk_cell KH.out 1).trans rfl
 have kh2:w3.cell? ⟨gh,2,none⟩=some (.slice A2 es.length c2):=(blk_cell KH.out 2).trans rfl
 by_cases h0:rc=0
 ·have HA:=Aside0.mk (HA0.out h0)
  subst h0
  clear HA0 HA1 IRD kh1
  have HR:=Aside0.mk (Kd.C_below HR.out BB.out)
  have kl0:w3.cell? ⟨gl,0,none⟩=some (.int .i64 n):=(blk_cell KL.out 0).trans rfl
  have kl1:w3.cell? ⟨gl,1,none⟩=some (.slice A l.length c):=(blk_cell KL.out 1).trans rfl
  go_upto_region 5 with ((with_reducible refine gate_dst (N:=6) rfl ?_);refine box_event ?hg (N:=6) ?hd (cs:=#[.pointer none,.slice none 0 0]) (t:=61) ?hr ?_;(case hd=>rfl);(case hg=>rfl);(case hr=>first|(go_simp;done)|(go_simp;rfl));intro gb eb w4 kb bb;have B4:=Aside0.mk bb;have HI:=Aside0.mk (show Lib.IsBuilderF 61 5 w3.heap.size gb (Lib.byteCells []) w4 from .inl ⟨by rw [eb];exact Nat.le_refl _,_,kb,World.ownsRowF_nil _ _ _ _,by simp [Value.ownBlock]⟩);have GB:=Aside0.mk (blk_lt kb);clear eb kb bb)
  have KL:=Aside0.mk (blk_below KL.out B4.out)
  have KH:=Aside0.mk (blk_below KH.out B4.out)
  clear kl0 kl1 kh0 kh2
  have kl0:w4.cell? ⟨gl,0,none⟩=some (.int .i64 n):=(blk_cell KL.out 0).trans rfl
  have kl1:w4.cell? ⟨gl,1,none⟩=some (.slice A l.length c):=(blk_cell KL.out 1).trans rfl
  have kh2:w4.cell? ⟨gh,2,none⟩=some (.slice A2 es.length c2):=(blk_cell KH.out 2).trans rfl
  have RFR:=Aside0.mk (run_facts n l es)
  go_wp2_with (go_at_call 47;refine (run_is n A c l A2 c2 es _ (Kd.C_below HR.out B4.out) HC.out (Kd.C_below RE.out.2 B4.out) RE.out.1).mono ?_;rintro e w5 ⟨v0,rfl,hs,hb⟩;have AN:=Aside0.mk (AnI.mk (bs:=[]) (builderF_below HI.out hb) hs (below_step (below_step BB.out B4.out) hb) BB.out.size GB.out (Nat.le_trans B4.out.size hb.size));obtain ⟨A0,c0,rfl⟩:=Kd.S_slice hs;clear hs hb)
  generalize run n l es=rs at *
  clear kl0 kl1 kh2 KL KH RE HI
  go_loopg [32] rs.length (fun kq v32 w'=>∃ i:Nat,v32=.int .i64 (i:Int)∧Aside0 (i+kq=rs.length)∧Aside0 (AnI w w3.heap.size gb w4.heap.size (ansTo rs i) (.slice A0 rs.length c0) rs w'))
  case atStart=>exact ⟨0,rfl,⟨by omega⟩,⟨by have:=AN.out;rwa [show ansTo rs 0=[] from rfl]⟩⟩
  case round =>
   clear AN
   obtain ⟨i,rfl,HX,AN⟩:=hrel
   by_cases hit:i<rs.length
   ·obtain ⟨go1,rfl⟩:∃ g,gk=g+1:=⟨gk - 1,by have:=HX.out;omega⟩
    have hit':decide ((i:Int)<(rs.length:Int))=true:=decide_eq_true (by omega)
    have r0:(0:Int)≤(i:Int):=by omega
    have r1:(i:Int)<(rs.length:Int):=by omega
    obtain ⟨ad,A3,c3,A4,c4,e,x0,x1,x2,x3,hr2⟩:=done_at AN.out.hS i hit
    subst e
    have HIT:=Aside0.mk hit
    have F1:=Aside0.mk (RFR.out.code i hit)
    have F2:=Aside0.mk (RFR.out.secs i hit)
    have F3:=Aside0.mk (RFR.out.told i hit)
    have GS:=Aside0.mk (ansTo_succ rs i hit)
    have LN:=Aside0.mk (ansTo_len RFR.out i (Nat.le_of_lt hit))
    generalize rd_T85 rs (i:Int)=d at x0 x1 x2 x3 hr2 F1 F2 F3 GS
    have DT:=Aside0.mk (doneTo_len F1.out F2.out)
    have D0:=Aside0.mk (doneTo_zero d)
    have DS:=Aside0.mk (doneTo_succ d)
    have DB:=Aside0.mk (show doneB d=doneTo d d.f1.f1.length ++ [10] from rfl)
    obtain ⟨dc,db,ss,dd⟩:=d
    dsimp only at x0 x1 x2 x3 hr2 F1 F2 F3 DB DS D0
    have R2:=Aside0.mk hr2
    have W1:=Aside0.mk (show wrap64 ((i:Int)+1)=((i+1:Nat):Int) from (wrap_id (by omega) (by have:=RFR.out.len;omega)).trans (by omega))
    clear hr2 r0 r1
    go_upto_region 8 with ((with_reducible refine gate_dst (N:=8) rfl ?_);refine box_event ?hg (N:=8) ?hd (cs:=#[.int .i64 0,.bool false,.slice none 0 0,.slice none 0 0]) (t:=85) ?hr ?_;(case hd=>rfl);(case hg=>rfl);(case hr=>first|(go_simp;done)|(go_simp;rfl));intro gd ed wd kd bd;have ED:=Aside0.mk ed;have KD:=Aside0.mk kd;have BD:=Aside0.mk bd;clear ed kd bd;have kd0:wd.cell? ⟨gd,0,none⟩=some (.int .i64 0):=(blk_cell KD.out 0).trans rfl;have zkd0:=blk_frozen KD.out 0;have kd1:wd.cell? ⟨gd,1,none⟩=some (.bool false):=(blk_cell KD.out 1).trans rfl;have zkd1:=blk_frozen KD.out 1;have kd2:wd.cell? ⟨gd,2,none⟩=some (.slice none 0 0):=(blk_cell KD.out 2).trans rfl;have zkd2:=blk_frozen KD.out 2;have kd3:wd.cell? ⟨gd,3,none⟩=some (.slice none 0 0):=(blk_cell KD.out 3).trans rfl;have zkd3:=blk_frozen KD.out 3)
    have FX:=Aside0.mk (fill4e (y0:=.int .i64 dc) (y1:=.bool db) (y2:=.slice A3 ss.length c3) (y3:=.slice A4 dd.length c4) KD.out BD.out (Nat.le_of_eq ED.out.symm))
    clear kd0 zkd0 kd1 zkd1 kd2 zkd2 kd3 zkd3 KD BD ED x0 x1 x2 x3
    generalize ((((wd.setCell ⟨gd,0,none⟩ (.int .i64 dc)).setCell ⟨gd,1,none⟩ (.bool db)).setCell ⟨gd,2,none⟩ (.slice A3 ss.length c3)).setCell ⟨gd,3,none⟩ (.slice A4 dd.length c4))=w6 at FX ⊢
    have AN:=Aside0.mk (AN.out.up FX.out.1)
    have R2:=Aside0.mk (R_up R2.out FX.out.1)
    have KD:=Aside0.mk FX.out.2
    clear FX
    have kd0:w6.cell? ⟨gd,0,none⟩=some (.int .i64 dc):=(blk_cell KD.out 0).trans rfl
    have kd2:w6.cell? ⟨gd,2,none⟩=some (.slice A3 ss.length c3):=(blk_cell KD.out 2).trans rfl
    obtain ⟨dg,hdg⟩:∃ dg:ByteArray,dg=⟨(Lib.decDigits dc.toNat).toArray⟩:=⟨_,rfl⟩
    have hds:dg.size≤5:=by rw [hdg];exact digits_small F1.out
    have sa0:(dg.size+1≤9223372036854775807)=True:=eq_true (by omega)
    have sa1:decide (dg.size+1≤9223372036854775807)=true:=decide_eq_true (by omega)
    have sa2:(9223372036854775807<dg.size+1)=False:=eq_false (by omega)
    have DG:=Aside0.mk hdg
    have DSZ:=Aside0.mk hds
    clear hdg hds
    go_upto_region 9 with (first|(go_at_call 46;refine (itoa_at F1.out.1 (by have:=F1.out.2;omega) (HTX.out _ AN.out.hB)).mono ?_;rintro e w7 ⟨rfl,hb⟩;rw [← DG.out];have AN:=Aside0.mk (AN.out.up hb);have R2:=Aside0.mk (R_up R2.out hb);have KD:=Aside0.mk (blk_below KD.out hb);clear hb kd0 kd2)|(go_at_call 32;refine (wstring_is _ _ _ _ _ AN.out.hb (by have:=LN.out;have:=RFR.out.len;have:=HIT.out;have:=DSZ.out;rw [ByteArray.size_append];show _+(dg.size+1)≤_;omega) AN.out.b3).mono ?_;rintro e w8 ⟨rfl,h1,h2,h3⟩;have KD:=Aside0.mk (AN.out.kept h3 KD.out (by decide) (by decide));have R2:=Aside0.mk (R_others R2.out h3 (by decide) AN.out.b2);have AN:=Aside0.mk (AN.out.wrote h1 h2 h3);clear h1 h2 h3))
    have kd2:w8.cell? ⟨gd,2,none⟩=some (.slice A3 ss.length c3):=(blk_cell KD.out 2).trans rfl
    have AN:=Aside0.mk (show AnI w w3.heap.size gb w4.heap.size (ansTo rs i ++ doneTo ⟨dc,⟨db,ss,dd⟩⟩ 0) (.slice (some ad) rs.length c0) rs w8 by have:=AN.out;rw [dig_app _ _ _ DG.out] at this;rw [D0.out];exact this)
    clear sa0 sa1 sa2
    go_wp2_with fail
    clear kd2
    go_loopg [45] ss.length (fun kq v45 w'=>∃ j:Nat,v45=.int .i64 (j:Int)∧Aside0 (j+kq=ss.length)∧Aside0 (AnI w w3.heap.size gb w4.heap.size (ansTo rs i ++ doneTo ⟨dc,⟨db,ss,dd⟩⟩ j) (.slice (some ad) rs.length c0) rs w')∧Aside0 (Kd.R k87 87 w' w4.heap.size (fun _=>True) (.slice A3 ss.length c3) ss))
    case atStart=>exact ⟨0,rfl,⟨by omega⟩,AN,R2⟩
    case round =>
     clear AN R2 KD
     obtain ⟨j,rfl,HJ,AN,R2⟩:=hrel
     by_cases hjt:j<ss.length
     ·obtain ⟨go2,rfl⟩:∃ g,gk=g+1:=⟨gk - 1,by have:=HJ.out;omega⟩
      have hjt':decide ((j:Int)<(ss.length:Int))=true:=decide_eq_true (by omega)
      have q0:(0:Int)≤(j:Int):=by omega
      have q1:(j:Int)<(ss.length:Int):=by omega
      obtain ⟨ads,e,x0,x1,x2,x3,x4⟩:=at_T87 (Kd.R_reads' R2.out).2.2 (j:Int) q0 q1
      subst e
      rw [Int.toNat_natCast] at x0 x1 x2 x3 x4
      have FT:=Aside0.mk (F3.out j hjt)
      have DJ:=Aside0.mk (DS.out j hjt)
      have LJ:=Aside0.mk (DT.out j)
      generalize rd_T87 ss (j:Int)=x at x0 x1 x2 x3 x4 FT DJ
      have W2:=Aside0.mk (show wrap64 ((j:Int)+1)=((j+1:Nat):Int) from (wrap_id (by omega) (by have:=F2.out;omega)).trans (by omega))
      clear q0 q1
      go_upto_region 12 with ((with_reducible refine gate_dst (N:=10) rfl ?_);refine box_event ?hg (N:=10) ?hd (cs:=#[.int .i64 0,.int .i64 0,.bool false,.bool false,.int .i64 0]) (t:=87) ?hr ?_;(case hd=>rfl);(case hg=>rfl);(case hr=>first|(go_simp;done)|(go_simp;rfl));intro gs es ws ks bs;have ES:=Aside0.mk es;have KS:=Aside0.mk ks;have BS:=Aside0.mk bs;clear es ks bs;have ks0:ws.cell? ⟨gs,0,none⟩=some (.int .i64 0):=(blk_cell KS.out 0).trans rfl;have zks0:=blk_frozen KS.out 0;have ks1:ws.cell? ⟨gs,1,none⟩=some (.int .i64 0):=(blk_cell KS.out 1).trans rfl;have zks1:=blk_frozen KS.out 1;have ks2:ws.cell? ⟨gs,2,none⟩=some (.bool false):=(blk_cell KS.out 2).trans rfl;have zks2:=blk_frozen KS.out 2;have ks3:ws.cell? ⟨gs,3,none⟩=some (.bool false):=(blk_cell KS.out 3).trans rfl;have zks3:=blk_frozen KS.out 3;have ks4:ws.cell? ⟨gs,4,none⟩=some (.int .i64 0):=(blk_cell KS.out 4).trans rfl;have zks4:=blk_frozen KS.out 4)
      have FX:=Aside0.mk (fill5e (y0:=.int .i64 x.f0) (y1:=.int .i64 x.f1) (y2:=.bool x.f2) (y3:=.bool x.f3) (y4:=.int .i64 x.f4) KS.out BS.out (Nat.le_of_eq ES.out.symm))
      clear ks0 zks0 ks1 zks1 ks2 zks2 ks3 zks3 ks4 zks4 KS BS ES x0 x1 x2 x3 x4
      generalize (((((ws.setCell ⟨gs,0,none⟩ (.int .i64 x.f0)).setCell ⟨gs,1,none⟩ (.int .i64 x.f1)).setCell ⟨gs,2,none⟩ (.bool x.f2)).setCell ⟨gs,3,none⟩ (.bool x.f3)).setCell ⟨gs,4,none⟩ (.int .i64 x.f4))=w9 at FX ⊢
      have AN:=Aside0.mk (AN.out.up FX.out.1)
      have R2:=Aside0.mk (R_up R2.out FX.out.1)
      have ks0:w9.cell? ⟨gs,0,none⟩=some (.int .i64 x.f0):=(blk_cell FX.out.2 0).trans rfl
      clear FX
      rcases sign_at FT.out with ⟨hb,hx⟩|⟨hb,hx⟩|⟨hb,hx⟩|⟨hb,hx⟩
      all_goals
       rw [hx] at ks0
       have HB:=Aside0.mk hb
       clear hb hx
       go_wp2_with (go_at_call 48;refine (wbyte_at _ _ _ (signB x) _ (by rw [HB.out];rfl) AN.out.hb (by have:=LN.out;have:=RFR.out.len;have:=HIT.out;have:=LJ.out;rw [List.length_append];omega) AN.out.b3).mono ?_;rintro e w10 ⟨rfl,h1,h2,h3⟩;have R2:=Aside0.mk (R_others R2.out h3 (by decide) AN.out.b2);have AN:=Aside0.mk (AN.out.wrote h1 h2 h3);clear h1 h2 h3 ks0)
       go_roundg go2
       case measure=>omega
       case rel=>exact ⟨j+1,congrArg (Value.int .i64) W2.out,⟨by have:=HJ.out;omega⟩,⟨by rw [DJ.out,← List.append_assoc];exact AN.out⟩,R2⟩
     have hjt':decide ((j:Int)<(ss.length:Int))=false:=decide_eq_false (by omega)
     have HJE:=Aside0.mk (show j=ss.length by have:=HJ.out;omega)
     have LJ:=Aside0.mk (DT.out j)
     go_wp2_with (go_at_call 32;refine (wstring_is _ _ _ _ _ AN.out.hb (by have:=LN.out;have:=RFR.out.len;have:=HIT.out;have:=LJ.out;rw [List.length_append];show _+1≤_;omega) AN.out.b3).mono ?_;rintro e w11 ⟨rfl,h1,h2,h3⟩;have AN:=Aside0.mk (AN.out.wrote h1 h2 h3);clear h1 h2 h3)
     go_roundg go1
     case measure=>omega
     case rel=>exact ⟨i+1,congrArg (Value.int .i64) W1.out,⟨by have:=HX.out;omega⟩,⟨by rw [GS.out,DB.out,← List.append_assoc];have:=AN.out;rw [HJE.out] at this;exact this⟩⟩
   have hit':decide ((i:Int)<(rs.length:Int))=false:=decide_eq_false (by omega)
   have HIE:=Aside0.mk (show i=rs.length by have:=HX.out;omega)
   go_wp2_with (go_at_call 35;refine (wget_is _ _ _ _ AN.out.hb AN.out.b3).mono ?_;rintro e w12 ⟨rfl,h2⟩;have BE:=Aside0.mk (AN.out.last h2);clear h2)
   go_ret
   exact ⟨by rw [HA.out,← HIE.out];rfl,BE.out⟩
 have HA:=Aside0.mk (HA1.out h0)
 have hb1:(rc != 0)=true:=by simp [h0]
 obtain ⟨dg1,hdg1⟩:∃ dg:ByteArray,dg=⟨(Lib.decDigits rc.toNat).toArray⟩:=⟨_,rfl⟩
 obtain ⟨dg2,hdg2⟩:∃ dg:ByteArray,dg=⟨(Lib.decDigits rd.toNat).toArray⟩:=⟨_,rfl⟩
 have hs1:dg1.size≤4:=by rw [hdg1];have:=digits_len rc.toNat;have:=RF.out.1;show (Lib.decDigits rc.toNat).length≤4;omega
 have hs2:dg2.size≤20001:=by rw [hdg2];have:=digits_len rd.toNat;have:=RF.out.2.1;show (Lib.decDigits rd.toNat).length≤20001;omega
 have sa0:(6+dg1.size≤9223372036854775807)=True:=eq_true (by omega)
 have sa1:decide (6+dg1.size≤9223372036854775807)=true:=decide_eq_true (by omega)
 have sa2:(9223372036854775807<6+dg1.size)=False:=eq_false (by omega)
 have sb0:(6+dg1.size+1≤9223372036854775807)=True:=eq_true (by omega)
 have sb1:decide (6+dg1.size+1≤9223372036854775807)=true:=decide_eq_true (by omega)
 have sb2:(9223372036854775807<6+dg1.size+1)=False:=eq_false (by omega)
 have sc0:(6+dg1.size+1+dg2.size≤9223372036854775807)=True:=eq_true (by omega)
 have sc1:decide (6+dg1.size+1+dg2.size≤9223372036854775807)=true:=decide_eq_true (by omega)
 have sc2:(9223372036854775807<6+dg1.size+1+dg2.size)=False:=eq_false (by omega)
 have sd0:(6+dg1.size+1+dg2.size+1≤9223372036854775807)=True:=eq_true (by omega)
 have sd1:decide (6+dg1.size+1+dg2.size+1≤9223372036854775807)=true:=decide_eq_true (by omega)
 have sd2:(9223372036854775807<6+dg1.size+1+dg2.size+1)=False:=eq_false (by omega)
 have DG1:=Aside0.mk hdg1
 have DG2:=Aside0.mk hdg2
 clear hdg1 hdg2 hs1 hs2 HA0 HA1 IRD kh2
 go_upto_region 3 with fail
 have DR:=Aside0.mk (below_drew1 (Below.refl w3.heap.size w3))
 have HT:=Aside0.mk (HT.out.nx DR.out)
 have BB:=Aside0.mk (below_step BB.out DR.out)
 replace kh0:=pw_cell_below DR.out kh0
 replace kh1:=pw_cell_below DR.out kh1
 clear DR KL RE KH
 refine start_ (n:=11) (S:=fun w'=>w'.cell? ⟨gh,0,none⟩=some (.int .i64 rc)∧w'.cell? ⟨gh,1,none⟩=some (.int .i64 rd)) (ds:=[]) #[false,false,false,false,false,false,false,false,false,false,false] (by kernel_rfl) rfl rfl ⟨kh0,kh1⟩ (fun hHeld=>?_)
 refine with_tabW an_tab3 an_bits3 (fun HT_ HW_=>?_)
 clear kh0 kh1
 generalize w3.drew=w95 at HT BB hHeld ⊢
 refine pure_ (i:=0) (N:=some 17) (v:=?_) (a':=?_) #[true,false,false,false,false,false,false,false,false,false,false] rfl rfl (any_of HT_.out (by kernel_rfl)) (fun _ _ _ h=>h) (Or.inl ⟨by rfl,?_⟩) ?_ ?_
 rotate_left
 ·intro w'
  go_simp
  with_reducible rfl
 rotate_left
 ·simp only [Act.put,List.setIfInBounds_toArray,List.set_cons_zero,List.set_cons_succ,i64_w,i32_w]
  rfl
 refine take_ (i:=1) (N:=some 18) (v:=?_) (a':=?_) #[true,true,false,false,false,false,false,false,false,false,false] rfl rfl (take_ofW HT_.out HW_.out (by kernel_rfl)) (fun _ _ _ h=>h) (Or.inl ⟨by rfl,?_⟩) hHeld ?_ ?_
 rotate_left
 ·rintro w' ⟨s0,s1⟩
  go_simp
  with_reducible rfl
 rotate_left
 ·simp only [Act.put,List.setIfInBounds_toArray,List.set_cons_zero,List.set_cons_succ,i64_w,i32_w]
  rfl
 refine pure_ (i:=5) (N:=some 22) (v:=?_) (a':=?_) #[true,true,false,false,false,true,false,false,false,false,false] rfl rfl (any_of HT_.out (by kernel_rfl)) (fun _ _ _ h=>h) (Or.inl ⟨by rfl,?_⟩) ?_ ?_
 rotate_left
 ·intro w'
  go_simp
  with_reducible rfl
 rotate_left
 ·simp only [Act.put,List.setIfInBounds_toArray,List.set_cons_zero,List.set_cons_succ,i64_w,i32_w]
  rfl
 refine take_ (i:=6) (N:=some 23) (v:=?_) (a':=?_) #[true,true,false,false,false,true,true,false,false,false,false] rfl rfl (take_ofW HT_.out HW_.out (by kernel_rfl)) (fun _ _ _ h=>h) (Or.inl ⟨by rfl,?_⟩) hHeld ?_ ?_
 rotate_left
 ·rintro w' ⟨s0,s1⟩
  go_simp
  with_reducible rfl
 rotate_left
 ·simp only [Act.put,List.setIfInBounds_toArray,List.set_cons_zero,List.set_cons_succ,i64_w,i32_w]
  rfl
 refine one_ (i:=2) (N:=some 19) #[true,true,true,false,false,true,true,false,false,false,false] rfl rfl (one_of HT_.out (by kernel_rfl)) (by decide) (fun K hK=>?_)
 refine goes_ Tryd.func46 (by kernel_rfl) rfl #[.int .i64 rc] (by rfl) rfl rfl (by (try simp only [List.map_toArray,List.map_cons,List.map_nil]);first|done|rfl) ?_
 ((with_reducible refine (itoa_at (by have:=RF.out;omega) (by have:=RF.out;omega) HT.out).mono ?_);rintro e w1 ⟨rfl,hb⟩);rw [← DG1.out]
 refine ⟨_,rfl,?_⟩
 have HT:=Aside0.mk (HT.out.nx hb)
 have BB:=Aside0.mk (below_step BB.out hb)
 refine hK.out _ _ ⟨pw_cell_below hb hHeld.1,pw_cell_below hb hHeld.2⟩ (fun hHeld=>?_)
 clear hb hK K
 refine norm_ (a':=?_) ?_ ?_
 rotate_left
 ·show Act.put _ (some 19) _=_
  simp only [Act.put,List.setIfInBounds_toArray,List.set_cons_zero,List.set_cons_succ,i64_w,i32_w]
  rfl
 refine pure_ (i:=3) (N:=some 20) (v:=?_) (a':=?_) #[true,true,true,true,false,true,true,false,false,false,false] rfl rfl (any_of HT_.out (by kernel_rfl)) (fun _ _ _ h=>h) (Or.inl ⟨by rfl,?_⟩) ?_ ?_
 rotate_left
 ·intro w'
  go_simp
  with_reducible rfl
 rotate_left
 ·simp only [Act.put,List.setIfInBounds_toArray,List.set_cons_zero,List.set_cons_succ,i64_w,i32_w]
  rfl
 refine pure_ (i:=4) (N:=some 21) (v:=?_) (a':=?_) #[true,true,true,true,true,true,true,false,false,false,false] rfl rfl (any_of HT_.out (by kernel_rfl)) (fun _ _ _ h=>h) (Or.inl ⟨by rfl,?_⟩) ?_ ?_
 rotate_left
 ·intro w'
  go_simp
  with_reducible rfl
 rotate_left
 ·simp only [Act.put,List.setIfInBounds_toArray,List.set_cons_zero,List.set_cons_succ,i64_w,i32_w]
  rfl
 refine one_ (i:=7) (N:=some 24) #[true,true,true,true,true,true,true,true,false,false,false] rfl rfl (one_of HT_.out (by kernel_rfl)) (by decide) (fun K hK=>?_)
 refine goes_ Tryd.func46 (by kernel_rfl) rfl #[.int .i64 rd] (by rfl) rfl rfl (by (try simp only [List.map_toArray,List.map_cons,List.map_nil]);first|done|rfl) ?_
 ((with_reducible refine (itoa_at (by have:=RF.out;omega) (by have:=RF.out;omega) HT.out).mono ?_);rintro e w1 ⟨rfl,hb⟩);rw [← DG2.out]
 refine ⟨_,rfl,?_⟩
 have HT:=Aside0.mk (HT.out.nx hb)
 have BB:=Aside0.mk (below_step BB.out hb)
 refine hK.out _ _ ⟨pw_cell_below hb hHeld.1,pw_cell_below hb hHeld.2⟩ (fun hHeld=>?_)
 clear hb hK K
 refine norm_ (a':=?_) ?_ ?_
 rotate_left
 ·show Act.put _ (some 24) _=_
  simp only [Act.put,List.setIfInBounds_toArray,List.set_cons_zero,List.set_cons_succ,i64_w,i32_w]
  rfl
 refine pure_ (i:=8) (N:=some 25) (v:=?_) (a':=?_) #[true,true,true,true,true,true,true,true,true,false,false] rfl rfl (any_of HT_.out (by kernel_rfl)) (fun _ _ _ h=>h) (Or.inl ⟨by rfl,?_⟩) ?_ ?_
 rotate_left
 ·intro w'
  go_simp
  with_reducible rfl
 rotate_left
 ·simp only [Act.put,List.setIfInBounds_toArray,List.set_cons_zero,List.set_cons_succ,i64_w,i32_w]
  rfl
 refine pure_ (i:=9) (N:=some 26) (v:=?_) (a':=?_) #[true,true,true,true,true,true,true,true,true,true,false] rfl rfl (any_of HT_.out (by kernel_rfl)) (fun _ _ _ h=>h) (Or.inl ⟨by rfl,?_⟩) ?_ ?_
 rotate_left
 ·intro w'
  go_simp
  with_reducible rfl
 rotate_left
 ·simp only [Act.put,List.setIfInBounds_toArray,List.set_cons_zero,List.set_cons_succ,i64_w,i32_w]
  rfl
 refine pure_ (i:=10) (N:=some 4) (v:=?_) (a':=?_) #[true,true,true,true,true,true,true,true,true,true,true] rfl rfl (any_of HT_.out (by kernel_rfl)) (fun _ _ _ h=>h) (Or.inl ⟨by rfl,?_⟩) ?_ ?_
 rotate_left
 ·intro w'
  go_simp
  with_reducible rfl
 rotate_left
 ·simp only [Act.put,List.setIfInBounds_toArray,List.set_cons_zero,List.set_cons_succ,i64_w,i32_w]
  rfl
 refine done_ (done_of HT_.out (by kernel_rfl)) ?_
 clear hHeld HT_ HW_ sa0 sa1 sa2 sb0 sb1 sb2 sc0 sc1 sc2 sd0 sd1 sd2
 go_wp2_with fail
 go_ret
 exact ⟨by rw [HA.out,← wrong_app dg1 dg2 rc rd DG1.out DG2.out];rfl,BB.out⟩
end Go.Proofs.YtpdnabhpkdchjaaDoor.P
namespace Go.Proofs.YtpdnabhpkdchjaaDoor.P
open Go.RowKit Go.Proofs.YtpdnabhpkdchjaaDoorW.PrintWords Go.Proofs.YtpdnabhpkdchjaaDoorW.PrintLast Go.Proofs.YtpdnabhpkdchjaaDoorW.PrintMore
set_option linter.unusedVariables false
set_option linter.unusedSimpArgs false
theorem l1in_calls (x a b:Int) (w:World):Calls Tryd.prog 51 #[.int .i64 x,.int .i64 a,.int .i64 b] w fun e w'=>e=.returned (.bool (decide (a≤x) && decide (x≤b)))∧w=w':=by
 by_cases h:a≤x
 ·have h1:decide (x ≥ a)=true:=decide_eq_true h
  rw [decide_eq_true h,Bool.true_and]
  go_enter Tryd.func51,Tryd.ntmps51
  go_wp2
  go_ret
  exact ⟨rfl,rfl⟩
 have h1:decide (x ≥ a)=false:=decide_eq_false h
 rw [decide_eq_false h,Bool.false_and]
 go_enter Tryd.func51,Tryd.ntmps51
 go_wp2
 go_ret
 exact ⟨rfl,rfl⟩
theorem add_none (s b:Int) (v:Value) (w:World) (h:s<0):Calls Tryd.prog 70 #[v,.int .i64 s,.int .i64 b] w fun e w'=>e=.returned (.tuple #[])∧w=w':=by
 have h1:decide (s<0)=true:=decide_eq_true h
 go_enter Tryd.func70,Tryd.ntmps70
 go_wp2
 refine bodyPost_ret (results_none rfl _ _ _) rfl ?_
 exact ⟨rfl,rfl⟩
set_option maxHeartbeats 4000000 in
set_option maxRecDepth 100000 in
theorem add_in (s:Int) (bo:Bool) (g gr n c:Nat) (v2:Value) (l:List S87) (w:World) (base:Nat) (ok:Nat→Prop) (h0:0≤s) (h1:s<n)
  (hb:w.heap[g]?=some (.cells #[.bool bo,.slice (some ⟨gr,0,none⟩) n c,v2] 83 (0,0))) (HO:Kd.R k87 87 w base ok (.slice (some ⟨gr,0,none⟩) n c) l) :
  Calls Tryd.prog 70 #[.pointer (some ⟨g,0,none⟩),.int .i64 s,.int .i64 (1)] w fun e w'=>e=.returned (.tuple #[])∧Kd.R k87 87 w' base ok (.slice (some ⟨gr,0,none⟩) n c) (l.set s.toNat (countS (rd_T87 l s) (1)))∧w.grownBy w' (some gr):=by
 obtain ⟨x0,x1,x2,x3,x4,f0,f1,f2,f3,f4⟩:=sec_at HO s h0 h1
 have hc1:w.cell? ⟨g,1,none⟩=some (.slice (some ⟨gr,0,none⟩) n c):=(blk_cell hb 1).trans rfl
 have hs:decide (s<0)=false:=decide_eq_false (by omega)
 have H0:=Aside0.mk h0
 have H1:=Aside0.mk h1
 have HO2:=Aside0.mk HO
 have hp0:=eq_true h0
 have hp1:=eq_true h1
 have ST:=Aside0.mk (SecSt.start HO H0.out H1.out)
 generalize hx:rd_T87 l s=x at x0 x1 x2 x3 x4 ST ⊢
 have HX:=hx
 clear hx hb h0 h1 HO HO2 HX
 by_cases q1:-1000000≤wrap64 (x.f1+1)
 ·skip
  have Q1:=Aside0.mk q1
  clear q1
  by_cases q2:wrap64 (x.f1+1)≤1000000
  ·skip
   have Q2:=Aside0.mk q2
   clear q2
   by_cases q3:wrap64 (x.f1+1)<0
   ·skip
    have f3:decide (wrap64 (x.f1+1)<0)=true:=decide_eq_true q3
    have Q3:=Aside0.mk q3
    clear q3
    rcases Bool.eq_false_or_eq_true x.f3 with q4|q4
    ·skip
     have HC:=Aside0.mk (show (decide (-1000000≤wrap64 (x.f1+1)) && decide (wrap64 (x.f1+1)≤1000000))=true from by have h1:=Q1.out;have h2:=Q2.out;rw [decide_eq_true h1,decide_eq_true h2];rfl)
     go_enter Tryd.func70,Tryd.ntmps70
     go_wp2_with (go_at_call 51;refine (l1in_calls _ _ _ _).mono ?_;rintro e w' ⟨rfl,rfl⟩;rw [HC.out])
     go_wp2
     go_end0
     exact ⟨rfl,SecSt.eq (((ST.out.put1 H0.out H1.out rfl).put4 H0.out H1.out rfl).put2 H0.out H1.out rfl) (countS_eq (cnt_in (by have:=Q1.out;omega) (by have:=Q2.out;omega)) (by rw [decide_eq_true (by have:=Q3.out;omega)];simp) (by simp))⟩
    have Q4:=Aside0.mk q4
    have HC:=Aside0.mk (show (decide (-1000000≤wrap64 (x.f1+1)) && decide (wrap64 (x.f1+1)≤1000000))=true from by have h1:=Q1.out;have h2:=Q2.out;rw [decide_eq_true h1,decide_eq_true h2];rfl)
    go_enter Tryd.func70,Tryd.ntmps70
    go_wp2_with (go_at_call 51;refine (l1in_calls _ _ _ _).mono ?_;rintro e w' ⟨rfl,rfl⟩;rw [HC.out])
    go_wp2
    go_end0
    exact ⟨rfl,SecSt.eq (((ST.out.put1 H0.out H1.out rfl).put4 H0.out H1.out rfl).put2 H0.out H1.out rfl) (countS_eq (cnt_in (by have:=Q1.out;omega) (by have:=Q2.out;omega)) (by rw [decide_eq_true (by have:=Q3.out;omega)];simp) (by rw [Q4.out];rfl))⟩
   skip
   have f3:decide (wrap64 (x.f1+1)<0)=false:=decide_eq_false q3
   have Q3:=Aside0.mk q3
   clear q3
   rcases Bool.eq_false_or_eq_true x.f3 with q4|q4
   ·skip
    have HC:=Aside0.mk (show (decide (-1000000≤wrap64 (x.f1+1)) && decide (wrap64 (x.f1+1)≤1000000))=true from by have h1:=Q1.out;have h2:=Q2.out;rw [decide_eq_true h1,decide_eq_true h2];rfl)
    go_enter Tryd.func70,Tryd.ntmps70
    go_wp2_with (go_at_call 51;refine (l1in_calls _ _ _ _).mono ?_;rintro e w' ⟨rfl,rfl⟩;rw [HC.out])
    go_wp2
    go_end0
    exact ⟨rfl,SecSt.eq ((ST.out.put1 H0.out H1.out rfl).put4 H0.out H1.out rfl) (countS_eq (cnt_in (by have:=Q1.out;omega) (by have:=Q2.out;omega)) (by rw [decide_eq_false (by have:=Q3.out;omega)];simp) (by simp))⟩
   have Q4:=Aside0.mk q4
   have HC:=Aside0.mk (show (decide (-1000000≤wrap64 (x.f1+1)) && decide (wrap64 (x.f1+1)≤1000000))=true from by have h1:=Q1.out;have h2:=Q2.out;rw [decide_eq_true h1,decide_eq_true h2];rfl)
   go_enter Tryd.func70,Tryd.ntmps70
   go_wp2_with (go_at_call 51;refine (l1in_calls _ _ _ _).mono ?_;rintro e w' ⟨rfl,rfl⟩;rw [HC.out])
   go_wp2
   go_end0
   exact ⟨rfl,SecSt.eq ((ST.out.put1 H0.out H1.out rfl).put4 H0.out H1.out rfl) (countS_eq (cnt_in (by have:=Q1.out;omega) (by have:=Q2.out;omega)) (by rw [decide_eq_false (by have:=Q3.out;omega)];simp) (by rw [Q4.out];rfl))⟩
  skip
  have Q2:=Aside0.mk q2
  clear q2
  by_cases q3:x.f1<0
  ·skip
   have f3:decide (x.f1<0)=true:=decide_eq_true q3
   have Q3:=Aside0.mk q3
   clear q3
   rcases Bool.eq_false_or_eq_true x.f3 with q4|q4
   ·skip
    have HC:=Aside0.mk (show (decide (-1000000≤wrap64 (x.f1+1)) && decide (wrap64 (x.f1+1)≤1000000))=false from by have h2:=Q2.out;rw [decide_eq_false h2,Bool.and_false])
    go_enter Tryd.func70,Tryd.ntmps70
    go_wp2_with (go_at_call 51;refine (l1in_calls _ _ _ _).mono ?_;rintro e w' ⟨rfl,rfl⟩;rw [HC.out])
    go_wp2
    go_end0
    exact ⟨rfl,SecSt.eq ((ST.out.put4 H0.out H1.out rfl).put2 H0.out H1.out rfl) (countS_eq (cnt_hi (by have:=Q2.out;omega)) (by rw [decide_eq_true (by have:=Q3.out;omega)];simp) (by simp))⟩
   have Q4:=Aside0.mk q4
   have HC:=Aside0.mk (show (decide (-1000000≤wrap64 (x.f1+1)) && decide (wrap64 (x.f1+1)≤1000000))=false from by have h2:=Q2.out;rw [decide_eq_false h2,Bool.and_false])
   go_enter Tryd.func70,Tryd.ntmps70
   go_wp2_with (go_at_call 51;refine (l1in_calls _ _ _ _).mono ?_;rintro e w' ⟨rfl,rfl⟩;rw [HC.out])
   go_wp2
   go_end0
   exact ⟨rfl,SecSt.eq ((ST.out.put4 H0.out H1.out rfl).put2 H0.out H1.out rfl) (countS_eq (cnt_hi (by have:=Q2.out;omega)) (by rw [decide_eq_true (by have:=Q3.out;omega)];simp) (by rw [Q4.out];rfl))⟩
  skip
  have f3:decide (x.f1<0)=false:=decide_eq_false q3
  have Q3:=Aside0.mk q3
  clear q3
  rcases Bool.eq_false_or_eq_true x.f3 with q4|q4
  ·skip
   have HC:=Aside0.mk (show (decide (-1000000≤wrap64 (x.f1+1)) && decide (wrap64 (x.f1+1)≤1000000))=false from by have h2:=Q2.out;rw [decide_eq_false h2,Bool.and_false])
   go_enter Tryd.func70,Tryd.ntmps70
   go_wp2_with (go_at_call 51;refine (l1in_calls _ _ _ _).mono ?_;rintro e w' ⟨rfl,rfl⟩;rw [HC.out])
   go_wp2
   go_end0
   exact ⟨rfl,SecSt.eq (ST.out.put4 H0.out H1.out rfl) (countS_eq (cnt_hi (by have:=Q2.out;omega)) (by rw [decide_eq_false (by have:=Q3.out;omega)];simp) (by simp))⟩
  have Q4:=Aside0.mk q4
  have HC:=Aside0.mk (show (decide (-1000000≤wrap64 (x.f1+1)) && decide (wrap64 (x.f1+1)≤1000000))=false from by have h2:=Q2.out;rw [decide_eq_false h2,Bool.and_false])
  go_enter Tryd.func70,Tryd.ntmps70
  go_wp2_with (go_at_call 51;refine (l1in_calls _ _ _ _).mono ?_;rintro e w' ⟨rfl,rfl⟩;rw [HC.out])
  go_wp2
  go_end0
  exact ⟨rfl,SecSt.eq (ST.out.put4 H0.out H1.out rfl) (countS_eq (cnt_hi (by have:=Q2.out;omega)) (by rw [decide_eq_false (by have:=Q3.out;omega)];simp) (by rw [Q4.out];rfl))⟩
 skip
 have Q1:=Aside0.mk q1
 clear q1
 by_cases q3:x.f1<0
 ·skip
  have f3:decide (x.f1<0)=true:=decide_eq_true q3
  have Q3:=Aside0.mk q3
  clear q3
  rcases Bool.eq_false_or_eq_true x.f3 with q4|q4
  ·skip
   have HC:=Aside0.mk (show (decide (-1000000≤wrap64 (x.f1+1)) && decide (wrap64 (x.f1+1)≤1000000))=false from by have h1:=Q1.out;rw [decide_eq_false h1,Bool.false_and])
   go_enter Tryd.func70,Tryd.ntmps70
   go_wp2_with (go_at_call 51;refine (l1in_calls _ _ _ _).mono ?_;rintro e w' ⟨rfl,rfl⟩;rw [HC.out])
   go_wp2
   go_end0
   exact ⟨rfl,SecSt.eq ((ST.out.put4 H0.out H1.out rfl).put2 H0.out H1.out rfl) (countS_eq (cnt_lo (by have:=Q1.out;omega)) (by rw [decide_eq_true (by have:=Q3.out;omega)];simp) (by simp))⟩
  have Q4:=Aside0.mk q4
  have HC:=Aside0.mk (show (decide (-1000000≤wrap64 (x.f1+1)) && decide (wrap64 (x.f1+1)≤1000000))=false from by have h1:=Q1.out;rw [decide_eq_false h1,Bool.false_and])
  go_enter Tryd.func70,Tryd.ntmps70
  go_wp2_with (go_at_call 51;refine (l1in_calls _ _ _ _).mono ?_;rintro e w' ⟨rfl,rfl⟩;rw [HC.out])
  go_wp2
  go_end0
  exact ⟨rfl,SecSt.eq ((ST.out.put4 H0.out H1.out rfl).put2 H0.out H1.out rfl) (countS_eq (cnt_lo (by have:=Q1.out;omega)) (by rw [decide_eq_true (by have:=Q3.out;omega)];simp) (by rw [Q4.out];rfl))⟩
 skip
 have f3:decide (x.f1<0)=false:=decide_eq_false q3
 have Q3:=Aside0.mk q3
 clear q3
 rcases Bool.eq_false_or_eq_true x.f3 with q4|q4
 ·skip
  have HC:=Aside0.mk (show (decide (-1000000≤wrap64 (x.f1+1)) && decide (wrap64 (x.f1+1)≤1000000))=false from by have h1:=Q1.out;rw [decide_eq_false h1,Bool.false_and])
  go_enter Tryd.func70,Tryd.ntmps70
  go_wp2_with (go_at_call 51;refine (l1in_calls _ _ _ _).mono ?_;rintro e w' ⟨rfl,rfl⟩;rw [HC.out])
  go_wp2
  go_end0
  exact ⟨rfl,SecSt.eq (ST.out.put4 H0.out H1.out rfl) (countS_eq (cnt_lo (by have:=Q1.out;omega)) (by rw [decide_eq_false (by have:=Q3.out;omega)];simp) (by simp))⟩
 have Q4:=Aside0.mk q4
 have HC:=Aside0.mk (show (decide (-1000000≤wrap64 (x.f1+1)) && decide (wrap64 (x.f1+1)≤1000000))=false from by have h1:=Q1.out;rw [decide_eq_false h1,Bool.false_and])
 go_enter Tryd.func70,Tryd.ntmps70
 go_wp2_with (go_at_call 51;refine (l1in_calls _ _ _ _).mono ?_;rintro e w' ⟨rfl,rfl⟩;rw [HC.out])
 go_wp2
 go_end0
 exact ⟨rfl,SecSt.eq (ST.out.put4 H0.out H1.out rfl) (countS_eq (cnt_lo (by have:=Q1.out;omega)) (by rw [decide_eq_false (by have:=Q3.out;omega)];simp) (by rw [Q4.out];rfl))⟩
set_option maxHeartbeats 4000000 in
set_option maxRecDepth 100000 in
theorem add_out (s:Int) (bo:Bool) (g gr n c:Nat) (v2:Value) (l:List S87) (w:World) (base:Nat) (ok:Nat→Prop) (h0:0≤s) (h1:s<n)
  (hb:w.heap[g]?=some (.cells #[.bool bo,.slice (some ⟨gr,0,none⟩) n c,v2] 83 (0,0))) (HO:Kd.R k87 87 w base ok (.slice (some ⟨gr,0,none⟩) n c) l) :
  Calls Tryd.prog 70 #[.pointer (some ⟨g,0,none⟩),.int .i64 s,.int .i64 (-1)] w fun e w'=>e=.returned (.tuple #[])∧Kd.R k87 87 w' base ok (.slice (some ⟨gr,0,none⟩) n c) (l.set s.toNat (countS (rd_T87 l s) (-1)))∧w.grownBy w' (some gr):=by
 obtain ⟨x0,x1,x2,x3,x4,f0,f1,f2,f3,f4⟩:=sec_at HO s h0 h1
 have hc1:w.cell? ⟨g,1,none⟩=some (.slice (some ⟨gr,0,none⟩) n c):=(blk_cell hb 1).trans rfl
 have hs:decide (s<0)=false:=decide_eq_false (by omega)
 have H0:=Aside0.mk h0
 have H1:=Aside0.mk h1
 have HO2:=Aside0.mk HO
 have hp0:=eq_true h0
 have hp1:=eq_true h1
 have ST:=Aside0.mk (SecSt.start HO H0.out H1.out)
 generalize hx:rd_T87 l s=x at x0 x1 x2 x3 x4 ST ⊢
 have HX:=hx
 clear hx hb h0 h1 HO HO2 HX
 by_cases q1:-1000000≤wrap64 (x.f1+-1)
 ·skip
  have Q1:=Aside0.mk q1
  clear q1
  by_cases q2:wrap64 (x.f1+-1)≤1000000
  ·skip
   have Q2:=Aside0.mk q2
   clear q2
   by_cases q3:wrap64 (x.f1+-1)<0
   ·skip
    have f3:decide (wrap64 (x.f1+-1)<0)=true:=decide_eq_true q3
    have Q3:=Aside0.mk q3
    clear q3
    rcases Bool.eq_false_or_eq_true x.f3 with q4|q4
    ·skip
     by_cases q5:wrap64 (x.f1+-1)=0
     ·skip
      have f5:(wrap64 (x.f1+-1)==0)=true:=beq_iff_eq.mpr q5
      have Q5:=Aside0.mk q5
      clear q5
      exact absurd Q5.out (by have:=Q3.out;omega)
     skip
     have f5:(wrap64 (x.f1+-1)==0)=false:=beq_eq_false_iff_ne.mpr q5
     have Q5:=Aside0.mk q5
     clear q5
     have HC:=Aside0.mk (show (decide (-1000000≤wrap64 (x.f1+-1)) && decide (wrap64 (x.f1+-1)≤1000000))=true from by have h1:=Q1.out;have h2:=Q2.out;rw [decide_eq_true h1,decide_eq_true h2];rfl)
     go_enter Tryd.func70,Tryd.ntmps70
     go_wp2_with (go_at_call 51;refine (l1in_calls _ _ _ _).mono ?_;rintro e w' ⟨rfl,rfl⟩;rw [HC.out])
     go_wp2
     go_end0
     exact ⟨rfl,SecSt.eq (((ST.out.put1 H0.out H1.out rfl).put4 H0.out H1.out rfl).put2 H0.out H1.out rfl) (countS_eq (cnt_in (by have:=Q1.out;omega) (by have:=Q2.out;omega)) (by rw [decide_eq_true (by have:=Q3.out;omega)];simp) (by rw [decide_eq_false (by have:=Q5.out;omega)];simp))⟩
    have Q4:=Aside0.mk q4
    have HC:=Aside0.mk (show (decide (-1000000≤wrap64 (x.f1+-1)) && decide (wrap64 (x.f1+-1)≤1000000))=true from by have h1:=Q1.out;have h2:=Q2.out;rw [decide_eq_true h1,decide_eq_true h2];rfl)
    go_enter Tryd.func70,Tryd.ntmps70
    go_wp2_with (go_at_call 51;refine (l1in_calls _ _ _ _).mono ?_;rintro e w' ⟨rfl,rfl⟩;rw [HC.out])
    go_wp2
    go_end0
    exact ⟨rfl,SecSt.eq (((ST.out.put1 H0.out H1.out rfl).put4 H0.out H1.out rfl).put2 H0.out H1.out rfl) (countS_eq (cnt_in (by have:=Q1.out;omega) (by have:=Q2.out;omega)) (by rw [decide_eq_true (by have:=Q3.out;omega)];simp) (by rw [Q4.out];rfl))⟩
   skip
   have f3:decide (wrap64 (x.f1+-1)<0)=false:=decide_eq_false q3
   have Q3:=Aside0.mk q3
   clear q3
   rcases Bool.eq_false_or_eq_true x.f3 with q4|q4
   ·skip
    by_cases q5:wrap64 (x.f1+-1)=0
    ·skip
     have f5:(wrap64 (x.f1+-1)==0)=true:=beq_iff_eq.mpr q5
     have Q5:=Aside0.mk q5
     clear q5
     have HC:=Aside0.mk (show (decide (-1000000≤wrap64 (x.f1+-1)) && decide (wrap64 (x.f1+-1)≤1000000))=true from by have h1:=Q1.out;have h2:=Q2.out;rw [decide_eq_true h1,decide_eq_true h2];rfl)
     go_enter Tryd.func70,Tryd.ntmps70
     go_wp2_with (go_at_call 51;refine (l1in_calls _ _ _ _).mono ?_;rintro e w' ⟨rfl,rfl⟩;rw [HC.out])
     go_wp2
     go_end0
     exact ⟨rfl,SecSt.eq (((ST.out.put1 H0.out H1.out rfl).put4 H0.out H1.out rfl).put3 H0.out H1.out rfl) (countS_eq (cnt_in (by have:=Q1.out;omega) (by have:=Q2.out;omega)) (by rw [decide_eq_false (by have:=Q3.out;omega)];simp) (by rw [decide_eq_true (by have:=Q5.out;omega)];simp))⟩
    skip
    have f5:(wrap64 (x.f1+-1)==0)=false:=beq_eq_false_iff_ne.mpr q5
    have Q5:=Aside0.mk q5
    clear q5
    have HC:=Aside0.mk (show (decide (-1000000≤wrap64 (x.f1+-1)) && decide (wrap64 (x.f1+-1)≤1000000))=true from by have h1:=Q1.out;have h2:=Q2.out;rw [decide_eq_true h1,decide_eq_true h2];rfl)
    go_enter Tryd.func70,Tryd.ntmps70
    go_wp2_with (go_at_call 51;refine (l1in_calls _ _ _ _).mono ?_;rintro e w' ⟨rfl,rfl⟩;rw [HC.out])
    go_wp2
    go_end0
    exact ⟨rfl,SecSt.eq ((ST.out.put1 H0.out H1.out rfl).put4 H0.out H1.out rfl) (countS_eq (cnt_in (by have:=Q1.out;omega) (by have:=Q2.out;omega)) (by rw [decide_eq_false (by have:=Q3.out;omega)];simp) (by rw [decide_eq_false (by have:=Q5.out;omega)];simp))⟩
   have Q4:=Aside0.mk q4
   have HC:=Aside0.mk (show (decide (-1000000≤wrap64 (x.f1+-1)) && decide (wrap64 (x.f1+-1)≤1000000))=true from by have h1:=Q1.out;have h2:=Q2.out;rw [decide_eq_true h1,decide_eq_true h2];rfl)
   go_enter Tryd.func70,Tryd.ntmps70
   go_wp2_with (go_at_call 51;refine (l1in_calls _ _ _ _).mono ?_;rintro e w' ⟨rfl,rfl⟩;rw [HC.out])
   go_wp2
   go_end0
   exact ⟨rfl,SecSt.eq ((ST.out.put1 H0.out H1.out rfl).put4 H0.out H1.out rfl) (countS_eq (cnt_in (by have:=Q1.out;omega) (by have:=Q2.out;omega)) (by rw [decide_eq_false (by have:=Q3.out;omega)];simp) (by rw [Q4.out];rfl))⟩
  skip
  have Q2:=Aside0.mk q2
  clear q2
  by_cases q3:x.f1<0
  ·skip
   have f3:decide (x.f1<0)=true:=decide_eq_true q3
   have Q3:=Aside0.mk q3
   clear q3
   rcases Bool.eq_false_or_eq_true x.f3 with q4|q4
   ·skip
    by_cases q5:x.f1=0
    ·skip
     have f5:(x.f1==0)=true:=beq_iff_eq.mpr q5
     have Q5:=Aside0.mk q5
     clear q5
     exact absurd Q5.out (by have:=Q3.out;omega)
    skip
    have f5:(x.f1==0)=false:=beq_eq_false_iff_ne.mpr q5
    have Q5:=Aside0.mk q5
    clear q5
    have HC:=Aside0.mk (show (decide (-1000000≤wrap64 (x.f1+-1)) && decide (wrap64 (x.f1+-1)≤1000000))=false from by have h2:=Q2.out;rw [decide_eq_false h2,Bool.and_false])
    go_enter Tryd.func70,Tryd.ntmps70
    go_wp2_with (go_at_call 51;refine (l1in_calls _ _ _ _).mono ?_;rintro e w' ⟨rfl,rfl⟩;rw [HC.out])
    go_wp2
    go_end0
    exact ⟨rfl,SecSt.eq ((ST.out.put4 H0.out H1.out rfl).put2 H0.out H1.out rfl) (countS_eq (cnt_hi (by have:=Q2.out;omega)) (by rw [decide_eq_true (by have:=Q3.out;omega)];simp) (by rw [decide_eq_false (by have:=Q5.out;omega)];simp))⟩
   have Q4:=Aside0.mk q4
   have HC:=Aside0.mk (show (decide (-1000000≤wrap64 (x.f1+-1)) && decide (wrap64 (x.f1+-1)≤1000000))=false from by have h2:=Q2.out;rw [decide_eq_false h2,Bool.and_false])
   go_enter Tryd.func70,Tryd.ntmps70
   go_wp2_with (go_at_call 51;refine (l1in_calls _ _ _ _).mono ?_;rintro e w' ⟨rfl,rfl⟩;rw [HC.out])
   go_wp2
   go_end0
   exact ⟨rfl,SecSt.eq ((ST.out.put4 H0.out H1.out rfl).put2 H0.out H1.out rfl) (countS_eq (cnt_hi (by have:=Q2.out;omega)) (by rw [decide_eq_true (by have:=Q3.out;omega)];simp) (by rw [Q4.out];rfl))⟩
  skip
  have f3:decide (x.f1<0)=false:=decide_eq_false q3
  have Q3:=Aside0.mk q3
  clear q3
  rcases Bool.eq_false_or_eq_true x.f3 with q4|q4
  ·skip
   by_cases q5:x.f1=0
   ·skip
    have f5:(x.f1==0)=true:=beq_iff_eq.mpr q5
    have Q5:=Aside0.mk q5
    clear q5
    have HC:=Aside0.mk (show (decide (-1000000≤wrap64 (x.f1+-1)) && decide (wrap64 (x.f1+-1)≤1000000))=false from by have h2:=Q2.out;rw [decide_eq_false h2,Bool.and_false])
    go_enter Tryd.func70,Tryd.ntmps70
    go_wp2_with (go_at_call 51;refine (l1in_calls _ _ _ _).mono ?_;rintro e w' ⟨rfl,rfl⟩;rw [HC.out])
    go_wp2
    go_end0
    exact ⟨rfl,SecSt.eq ((ST.out.put4 H0.out H1.out rfl).put3 H0.out H1.out rfl) (countS_eq (cnt_hi (by have:=Q2.out;omega)) (by rw [decide_eq_false (by have:=Q3.out;omega)];simp) (by rw [decide_eq_true (by have:=Q5.out;omega)];simp))⟩
   skip
   have f5:(x.f1==0)=false:=beq_eq_false_iff_ne.mpr q5
   have Q5:=Aside0.mk q5
   clear q5
   have HC:=Aside0.mk (show (decide (-1000000≤wrap64 (x.f1+-1)) && decide (wrap64 (x.f1+-1)≤1000000))=false from by have h2:=Q2.out;rw [decide_eq_false h2,Bool.and_false])
   go_enter Tryd.func70,Tryd.ntmps70
   go_wp2_with (go_at_call 51;refine (l1in_calls _ _ _ _).mono ?_;rintro e w' ⟨rfl,rfl⟩;rw [HC.out])
   go_wp2
   go_end0
   exact ⟨rfl,SecSt.eq (ST.out.put4 H0.out H1.out rfl) (countS_eq (cnt_hi (by have:=Q2.out;omega)) (by rw [decide_eq_false (by have:=Q3.out;omega)];simp) (by rw [decide_eq_false (by have:=Q5.out;omega)];simp))⟩
  have Q4:=Aside0.mk q4
  have HC:=Aside0.mk (show (decide (-1000000≤wrap64 (x.f1+-1)) && decide (wrap64 (x.f1+-1)≤1000000))=false from by have h2:=Q2.out;rw [decide_eq_false h2,Bool.and_false])
  go_enter Tryd.func70,Tryd.ntmps70
  go_wp2_with (go_at_call 51;refine (l1in_calls _ _ _ _).mono ?_;rintro e w' ⟨rfl,rfl⟩;rw [HC.out])
  go_wp2
  go_end0
  exact ⟨rfl,SecSt.eq (ST.out.put4 H0.out H1.out rfl) (countS_eq (cnt_hi (by have:=Q2.out;omega)) (by rw [decide_eq_false (by have:=Q3.out;omega)];simp) (by rw [Q4.out];rfl))⟩
 skip
 have Q1:=Aside0.mk q1
 clear q1
 by_cases q3:x.f1<0
 ·skip
  have f3:decide (x.f1<0)=true:=decide_eq_true q3
  have Q3:=Aside0.mk q3
  clear q3
  rcases Bool.eq_false_or_eq_true x.f3 with q4|q4
  ·skip
   by_cases q5:x.f1=0
   ·skip
    have f5:(x.f1==0)=true:=beq_iff_eq.mpr q5
    have Q5:=Aside0.mk q5
    clear q5
    exact absurd Q5.out (by have:=Q3.out;omega)
   skip
   have f5:(x.f1==0)=false:=beq_eq_false_iff_ne.mpr q5
   have Q5:=Aside0.mk q5
   clear q5
   have HC:=Aside0.mk (show (decide (-1000000≤wrap64 (x.f1+-1)) && decide (wrap64 (x.f1+-1)≤1000000))=false from by have h1:=Q1.out;rw [decide_eq_false h1,Bool.false_and])
   go_enter Tryd.func70,Tryd.ntmps70
   go_wp2_with (go_at_call 51;refine (l1in_calls _ _ _ _).mono ?_;rintro e w' ⟨rfl,rfl⟩;rw [HC.out])
   go_wp2
   go_end0
   exact ⟨rfl,SecSt.eq ((ST.out.put4 H0.out H1.out rfl).put2 H0.out H1.out rfl) (countS_eq (cnt_lo (by have:=Q1.out;omega)) (by rw [decide_eq_true (by have:=Q3.out;omega)];simp) (by rw [decide_eq_false (by have:=Q5.out;omega)];simp))⟩
  have Q4:=Aside0.mk q4
  have HC:=Aside0.mk (show (decide (-1000000≤wrap64 (x.f1+-1)) && decide (wrap64 (x.f1+-1)≤1000000))=false from by have h1:=Q1.out;rw [decide_eq_false h1,Bool.false_and])
  go_enter Tryd.func70,Tryd.ntmps70
  go_wp2_with (go_at_call 51;refine (l1in_calls _ _ _ _).mono ?_;rintro e w' ⟨rfl,rfl⟩;rw [HC.out])
  go_wp2
  go_end0
  exact ⟨rfl,SecSt.eq ((ST.out.put4 H0.out H1.out rfl).put2 H0.out H1.out rfl) (countS_eq (cnt_lo (by have:=Q1.out;omega)) (by rw [decide_eq_true (by have:=Q3.out;omega)];simp) (by rw [Q4.out];rfl))⟩
 skip
 have f3:decide (x.f1<0)=false:=decide_eq_false q3
 have Q3:=Aside0.mk q3
 clear q3
 rcases Bool.eq_false_or_eq_true x.f3 with q4|q4
 ·skip
  by_cases q5:x.f1=0
  ·skip
   have f5:(x.f1==0)=true:=beq_iff_eq.mpr q5
   have Q5:=Aside0.mk q5
   clear q5
   have HC:=Aside0.mk (show (decide (-1000000≤wrap64 (x.f1+-1)) && decide (wrap64 (x.f1+-1)≤1000000))=false from by have h1:=Q1.out;rw [decide_eq_false h1,Bool.false_and])
   go_enter Tryd.func70,Tryd.ntmps70
   go_wp2_with (go_at_call 51;refine (l1in_calls _ _ _ _).mono ?_;rintro e w' ⟨rfl,rfl⟩;rw [HC.out])
   go_wp2
   go_end0
   exact ⟨rfl,SecSt.eq ((ST.out.put4 H0.out H1.out rfl).put3 H0.out H1.out rfl) (countS_eq (cnt_lo (by have:=Q1.out;omega)) (by rw [decide_eq_false (by have:=Q3.out;omega)];simp) (by rw [decide_eq_true (by have:=Q5.out;omega)];simp))⟩
  skip
  have f5:(x.f1==0)=false:=beq_eq_false_iff_ne.mpr q5
  have Q5:=Aside0.mk q5
  clear q5
  have HC:=Aside0.mk (show (decide (-1000000≤wrap64 (x.f1+-1)) && decide (wrap64 (x.f1+-1)≤1000000))=false from by have h1:=Q1.out;rw [decide_eq_false h1,Bool.false_and])
  go_enter Tryd.func70,Tryd.ntmps70
  go_wp2_with (go_at_call 51;refine (l1in_calls _ _ _ _).mono ?_;rintro e w' ⟨rfl,rfl⟩;rw [HC.out])
  go_wp2
  go_end0
  exact ⟨rfl,SecSt.eq (ST.out.put4 H0.out H1.out rfl) (countS_eq (cnt_lo (by have:=Q1.out;omega)) (by rw [decide_eq_false (by have:=Q3.out;omega)];simp) (by rw [decide_eq_false (by have:=Q5.out;omega)];simp))⟩
 have Q4:=Aside0.mk q4
 have HC:=Aside0.mk (show (decide (-1000000≤wrap64 (x.f1+-1)) && decide (wrap64 (x.f1+-1)≤1000000))=false from by have h1:=Q1.out;rw [decide_eq_false h1,Bool.false_and])
 go_enter Tryd.func70,Tryd.ntmps70
 go_wp2_with (go_at_call 51;refine (l1in_calls _ _ _ _).mono ?_;rintro e w' ⟨rfl,rfl⟩;rw [HC.out])
 go_wp2
 go_end0
 exact ⟨rfl,SecSt.eq (ST.out.put4 H0.out H1.out rfl) (countS_eq (cnt_lo (by have:=Q1.out;omega)) (by rw [decide_eq_false (by have:=Q3.out;omega)];simp) (by rw [Q4.out];rfl))⟩
end Go.Proofs.YtpdnabhpkdchjaaDoor.P
namespace Go.Proofs.YtpdnabhpkdchjaaDoor.P
open Go.RowKit Go.Proofs.YtpdnabhpkdchjaaDoorW.PrintWords Go.Proofs.YtpdnabhpkdchjaaDoorW.PrintLast Go.Proofs.YtpdnabhpkdchjaaDoorW.PrintMore
set_option linter.unusedVariables false
structure StSt (w0 w:World) (gl gz:Nat) (lv zv:List Value):Prop where
 hB:Below w0.heap.size w0 w
 hl:w.heap[gl]?=some (.cells lv.toArray 31 (0,0))
 hz:w.heap[gz]?=some (.cells zv.toArray 83 (0,0))
structure SeSt (w0 w:World) (gl gz gx:Nat) (lv zv xv:List Value):Prop where
 S:StSt w0 w gl gz lv zv
 hx:w.heap[gx]?=some (.cells xv.toArray 87 (0,0))
section
variable {w0 w w' : World} {gl gz gx : Nat} {lv zv xv : List Value}
theorem StSt.up (h:StSt w0 w gl gz lv zv) (hb:Below w.heap.size w w'):StSt w0 w' gl gz lv zv:=⟨below_step h.hB hb,blk_below h.hl hb,blk_below h.hz hb⟩
theorem SeSt.up (h:SeSt w0 w gl gz gx lv zv xv) (hb:Below w.heap.size w w'):SeSt w0 w' gl gz gx lv zv xv:=⟨h.S.up hb,blk_below h.hx hb⟩
theorem StSt.fill {y0 y1 y2 y3 y4 x0 x1 x2 x3 x4:Value} (h:StSt w0 w gl gz lv zv) (hx:w'.heap[gx]?=some (.cells #[x0,x1,x2,x3,x4] 87 (0,0))) (hb:Below w.heap.size w w') (hg:w.heap.size≤gx) :
  SeSt w0 (((((w'.setCell ⟨gx,0,none⟩ y0).setCell ⟨gx,1,none⟩ y1).setCell ⟨gx,2,none⟩ y2).setCell ⟨gx,3,none⟩ y3).setCell ⟨gx,4,none⟩ y4) gl gz gx lv zv [y0,y1,y2,y3,y4]:=by
 have h2:=below_set (j:=4) (v:=y4) (below_set (j:=3) (v:=y3) (below_set (j:=2) (v:=y2) (below_set (j:=1) (v:=y1) (below_set (j:=0) (v:=y0) hb hg) hg) hg) hg) hg
 exact ⟨h.up h2,blk_put (blk_put (blk_put (blk_put (blk_put hx 0 y0 rfl) 1 y1 rfl) 2 y2 rfl) 3 y3 rfl) 4 y4 rfl⟩
end
theorem stateOk_tests (n:Int) (l:List S98) (b:Bool) (ss:List S87) (dd:List Bool) :
  (¬ ((layoutOk n l != 0)=false∧b=true∧((ss.length:Int) != n)=false∧((dd.length:Int) != (l.length:Int))=false)→stateOk n l b ss dd=false) ∧
  (layoutOk n l=0→(ss.length:Int)=n→dd.length=l.length→b=true→stateOk n l b ss dd=secsFrom l dd ss ss.length 0):=by
 constructor
 ·intro h
  cases hs:stateOk n l b ss dd with
  | false=>rfl
  | true =>
   obtain ⟨h1,h2,h3,h4,_⟩:=stateOk_of hs
   exact absurd ⟨by simp [h1],h2,by simp [h3],by simp;omega⟩ h
 intro h1 h2 h3 h4
 simp [stateOk,h1,h2,h3,h4]
theorem secOk_parts (l:List S98) (dd:List Bool) (s:Int) (x:S87) :
  ((decide (x.f1< -1000000) || decide (1000000<x.f1) || decide (x.f4< -1) || decide (1<x.f4) || (x.f0 != toldC l dd s x))=true→secOk l dd s x=false) ∧
  ((decide (x.f1< -1000000) || decide (1000000<x.f1) || decide (x.f4< -1) || decide (1<x.f4) || (x.f0 != toldC l dd s x))=false→secOk l dd s x=(!((decide (x.f1<0) || deadAt l dd s) && !x.f2) && !(x.f3 && (x.f1==0) && (x.f4==-1) && !x.f2))):=by
 have e1:(x.f1==0)=decide (x.f1=0):=by rw [Bool.eq_iff_iff];simp
 have e2:(x.f4==-1)=decide (x.f4=-1):=by rw [Bool.eq_iff_iff];simp
 have e3:(x.f0 != toldC l dd s x)=!decide (x.f0=toldC l dd s x):=by rw [Bool.eq_iff_iff];simp
 have e4:secRange x=!(decide (x.f1< -1000000) || decide (1000000<x.f1) || decide (x.f4< -1) || decide (1<x.f4)):=by
  rw [Bool.eq_iff_iff];simp only [secRange,Bool.and_eq_true,decide_eq_true_eq,Bool.not_eq_true',Bool.or_eq_false_iff,decide_eq_false_iff_not];omega
 rw [e1,e2,e3]
 simp only [secOk,secRest,e4]
 cases (decide (x.f1< -1000000) || decide (1000000<x.f1) || decide (x.f4< -1) || decide (1<x.f4)) <;> cases decide (x.f0=toldC l dd s x) <;> simp
theorem bad_of {x:S87} {r1 r2 t y:Bool} (h1:(decide (-1000000≤x.f1) && decide (x.f1≤1000000))=r1) (h2:(decide (-1≤x.f4) && decide (x.f4≤1))=r2) (h:(!r1 || !r2 || t)=y) :
  (decide (x.f1< -1000000) || decide (1000000<x.f1) || decide (x.f4< -1) || decide (1<x.f4) || t)=y:=by
 subst h1 h2 h
 rw [Bool.eq_iff_iff]
 cases t
 ·simp only [Bool.or_eq_true,decide_eq_true_eq,Bool.not_eq_true',Bool.and_eq_false_iff,decide_eq_false_iff_not,Bool.false_eq_true,or_false]
  omega
 simp
end Go.Proofs.YtpdnabhpkdchjaaDoor.P
namespace Go.Proofs.YtpdnabhpkdchjaaDoor.P
open Go.RowKit Go.Proofs.YtpdnabhpkdchjaaDoorW.PrintWords Go.Proofs.YtpdnabhpkdchjaaDoorW.PrintLast Go.Proofs.YtpdnabhpkdchjaaDoorW.PrintMore
attribute [local go_sem ↓] Go.wp_at_zero Go.wp_at_succ
set_option linter.unusedVariables false
set_option linter.unusedSimpArgs false
section
variable {n : Int} {A : Option Addr} {c : Nat} {l : List S98} {A2 : Option Addr} {c2 : Nat} {dd : List Bool} {w : World}
theorem in_v {x a b:Int} {y:Bool} (h:(decide (a≤x) && decide (x≤b))=y) (w:World):Calls Tryd.prog 51 #[.int .i64 x,.int .i64 a,.int .i64 b] w fun e w'=>e=.returned (.bool y)∧Below w.heap.size w w' :=
 (spec_l1in.calls x a b y w (by rw [spec_l1in.f,← h];by_cases h1:a≤x <;> simp [h1])).mono fun e w' ⟨he,hd⟩=>⟨he,hd.below⟩
theorem sdeadv {x:Bool} (i:Int) (hx:deadAt l dd i=x) (hr:Kd.C k98 w A l.length l) (hc:l.length≤c) (hr2:Kd.C Kd.bool w A2 dd.length dd) (hc2:dd.length≤c2) (hl:layoutOk n l=0) (h0:0≤i) (h1:i<n) (hd:dd.length=l.length) :
  Calls Tryd.prog 71 #[.agg #[.int .i64 n,.slice A l.length c],.slice A2 dd.length c2,.int .i64 i] w fun e w'=>e=.returned (.bool x)∧Below w.heap.size w w':=by
 obtain ⟨k,h⟩:=(specDead_ev n l dd i hl ⟨h0,h1⟩ hd).rounds
 rw [← hx]
 exact spec_l2dead.calls k n A c l A2 c2 dd i _ w hr hc hr2 hc2 h
theorem stold_v {x:S87} {v:Int} (i:Int) (hx:toldC l dd i x=v) (hr:Kd.C k98 w A l.length l) (hc:l.length≤c) (hr2:Kd.C Kd.bool w A2 dd.length dd) (hc2:dd.length≤c2) (hl:layoutOk n l=0) (h0:0≤i) (h1:i<n) (hd:dd.length=l.length) :
  Calls Tryd.prog 72 #[.agg #[.int .i64 n,.slice A l.length c],.slice A2 dd.length c2,.int .i64 i,.agg #[.int .i64 x.f0,.int .i64 x.f1,.bool x.f2,.bool x.f3,.int .i64 x.f4]] w fun e w'=>e=.returned (.int .i64 v)∧Below w.heap.size w w':=by
 obtain ⟨k,h⟩:=(specTold_ev n l dd i x hl ⟨h0,h1⟩ hd).rounds
 rw [hx] at h
 exact spec_l2told.calls k n A c l A2 c2 dd i x.f0 x.f1 x.f2 x.f3 x.f4 _ w hr hc hr2 hc2 h
end
def st_T6:Bool × List (List Nat × List Nat):=(true,[([],[]),([0],[0]),([1],[1]),([2],[2]),([3,2],[3]),([4],[4]),([5,4],[4,5]),([6,4,4],[4,6]),([7,4],[4,7]),([4,8],[4,8]),([9,7],[9]),([10],[10]),([11,10],[10,11]),([10],[10]),([10],[10]),([14,10],[10,14]),([10],[10]),([10],[10]),([13,15,16,17,10,10],[10,13,15,16,17]),([12,18,10],[10,12,18]),([10,19],[10,19])])
def st_B6:List Nat:=[0,1,3,7,15,31,63,127,255,511,1023,2047,4095,2047,2047,18431,2047,2047,255999,524287,1048575]
theorem st_tab6:rtab .any (opsOf Tryd.f69 6)=st_T6:=by kernel_rfl
theorem st_bits6:waitsOk st_T6.2 st_B6=true:=by kernel_rfl
set_option maxHeartbeats 16000000 in
set_option maxRecDepth 100000 in
theorem sst_any {n:Int} {A:Option Addr} {c:Nat} {l:List S98} {b:Bool} {A1:Option Addr} {c1:Nat} {ss:List S87} {A2:Option Addr} {c2:Nat} {dd:List Bool} {w:World}
    (hr:Kd.C k98 w A l.length l) (hc:l.length≤c) (hr1:Kd.C k87 w A1 ss.length ss) (hc1:ss.length≤c1) (hr2:Kd.C Kd.bool w A2 dd.length dd) (hc2:dd.length≤c2) :
    Calls Tryd.prog 69 #[.agg #[.int .i64 n,.slice A l.length c],.agg #[.bool b,.slice A1 ss.length c1,.slice A2 dd.length c2]] w fun e w'=>e=.returned (.bool (stateOk n l b ss dd))∧Below w.heap.size w w':=by
  have HR:=Aside0.mk hr
  have HR1:=Aside0.mk hr1
  have HR2:=Aside0.mk hr2
  have HC:=Aside0.mk hc
  have HC1:=Aside0.mk hc1
  have HC2:=Aside0.mk hc2
  obtain ⟨lv,hlv⟩:∃ lv,layoutOk n l=lv:=⟨_,rfl⟩
  have HLV:=Aside0.mk hlv
  obtain ⟨so,hso⟩:∃ so,stateOk n l b ss dd=so:=⟨_,rfl⟩
  have HSO:=Aside0.mk hso
  rw [hso]
  have HT4:=Aside0.mk (stateOk_tests n l b ss dd)
  rw [hso,hlv] at HT4
  clear hr hr1 hr2 hc hc1 hc2 hlv hso
  go_enter Tryd.func69,Tryd.ntmps69
  go_upto_region 1 with (first|((with_reducible refine gate_dst (N:=2) rfl ?_);refine box_event ?hg (N:=2) ?hd (cs:=#[.int .i64 n,.slice A l.length c]) (t:=31) ?hr ?_;(case hd=>rfl);(case hg=>rfl);(case hr=>first|(go_simp;done)|(go_simp;rfl));intro gl el wl kl bl;clear el)|((with_reducible refine gate_dst (N:=3) rfl ?_);refine box_event ?hg (N:=3) ?hd (cs:=#[.bool b,.slice A1 ss.length c1,.slice A2 dd.length c2]) (t:=83) ?hr ?_;(case hd=>rfl);(case hg=>rfl);(case hr=>first|(go_simp;done)|(go_simp;rfl));intro gz ez wz kz bz;clear ez))
  have S0:Aside0 (StSt w wz gl gz [.int .i64 n,.slice A l.length c] [.bool b,.slice A1 ss.length c1,.slice A2 dd.length c2]):=⟨⟨below_step bl bz,blk_below kl bz,kz⟩⟩
  clear kl kz bl bz
  try simp only [Act.put,List.setIfInBounds_toArray,List.set_cons_zero,List.set_cons_succ]
  have kl0:wz.cell? ⟨gl,0,none⟩=some (.int .i64 n):=(blk_cell S0.out.hl 0).trans rfl
  have kl1:wz.cell? ⟨gl,1,none⟩=some (.slice A l.length c):=(blk_cell S0.out.hl 1).trans rfl
  by_cases hgood:(lv != 0)=false∧b=true∧((ss.length:Int) != n)=false∧((dd.length:Int) != (l.length:Int))=false
  rotate_left
  · have HF:=Aside0.mk (HT4.out.1 hgood)
    cases h1:(lv != 0) <;> cases b <;> cases h3:((ss.length:Int) != n) <;> cases h4:((dd.length:Int) != (l.length:Int)) <;>
    rw [h1,h3,h4] at hgood <;>
    first
    | (simp at hgood;done)
    | (clear hgood
       go_wp2_with (go_at_call 38;refine (slay_is (Kd.C_below HR.out S0.out.hB) HC.out).mono ?_;rintro e w1 ⟨h,hb⟩;rw [HLV.out] at h;subst h;have S1:=Aside0.mk (S0.out.up hb);have kl0:w1.cell? ⟨gl,0,none⟩=some (.int .i64 n):=(blk_cell S1.out.hl 0).trans rfl;have kl1:w1.cell? ⟨gl,1,none⟩=some (.slice A l.length c):=(blk_cell S1.out.hl 1).trans rfl;have kz0:w1.cell? ⟨gz,0,none⟩=some (.bool _):=(blk_cell S1.out.hz 0).trans rfl;have kz1:w1.cell? ⟨gz,1,none⟩=some (.slice A1 ss.length c1):=(blk_cell S1.out.hz 1).trans rfl;have kz2:w1.cell? ⟨gz,2,none⟩=some (.slice A2 dd.length c2):=(blk_cell S1.out.hz 2).trans rfl;clear hb)
       go_ret
       exact ⟨by rw [HF.out];rfl,S1.out.hB⟩)
  obtain ⟨h1,rfl,h3,h4⟩:=hgood
  have HL:=Aside0.mk (show layoutOk n l=0 by rw [HLV.out];simpa using h1)
  have HN:=Aside0.mk (show (ss.length:Int)=n by simpa using h3)
  have HDL:=Aside0.mk (show dd.length=l.length by simp at h4;omega)
  have HLL:=Aside0.mk (show l.length≤1048576 by have:=lay_n HL.out;omega)
  have H60:=Aside0.mk (show ss.length≤60 by have:=lay_n HL.out;have:=HN.out;omega)
  have HSF:=Aside0.mk (show so=secsFrom l dd ss ss.length 0 from HT4.out.2 (by rw [← HLV.out];exact HL.out) HN.out HDL.out rfl)
  clear HT4 HSO
  go_wp2_with (go_at_call 38;refine (slay_is (Kd.C_below HR.out S0.out.hB) HC.out).mono ?_;rintro e w1 ⟨h,hb⟩;rw [HLV.out] at h;subst h;have S1:=Aside0.mk (S0.out.up hb);have kl0:w1.cell? ⟨gl,0,none⟩=some (.int .i64 n):=(blk_cell S1.out.hl 0).trans rfl;have kl1:w1.cell? ⟨gl,1,none⟩=some (.slice A l.length c):=(blk_cell S1.out.hl 1).trans rfl;have kz0:w1.cell? ⟨gz,0,none⟩=some (.bool true):=(blk_cell S1.out.hz 0).trans rfl;have kz1:w1.cell? ⟨gz,1,none⟩=some (.slice A1 ss.length c1):=(blk_cell S1.out.hz 1).trans rfl;have kz2:w1.cell? ⟨gz,2,none⟩=some (.slice A2 dd.length c2):=(blk_cell S1.out.hz 2).trans rfl;clear hb)
  clear S0 kl0 kl1 kz0 kz1 kz2 h1 h3 h4
  go_loopg [35] ss.length (fun kq v35 w'=>∃ j:Nat,v35=.int .i64 j∧Aside0 (j+kq=ss.length)∧Aside0 (so=secsFrom l dd ss kq j)∧Aside0 (StSt w w' gl gz [.int .i64 n,.slice A l.length c] [.bool true,.slice A1 ss.length c1,.slice A2 dd.length c2]))
  case atStart=>exact ⟨0,rfl,⟨by omega⟩,HSF,S1⟩
  case round =>
    clear S1 HSF
    obtain ⟨j,rfl,HJ,HSF,SL⟩:=hrel
    by_cases hlt:j<ss.length
    · cases gk with
      | zero=>exact absurd HJ.out (by omega)
      | succ gk =>
      have hlt':decide ((j:Int)<(ss.length:Int))=true:=decide_eq_true (by omega)
      have q0:(0:Int)≤(j:Int):=by omega
      have q1:(j:Int)<(ss.length:Int):=by omega
      have HJN:=Aside0.mk (show (j:Int)<n by have:=HN.out;omega)
      have HSF:=Aside0.mk (show so=(secOk l dd (j:Int) (rd_T87 ss (j:Int)) && secsFrom l dd ss gk (j+1)) from HSF.out)
      obtain ⟨ad,e,x0,x1,x2,x3,x4⟩:=at_T87 HR1.out (j:Int) q0 q1
      cases e
      rw [Int.toNat_natCast] at x0 x1 x2 x3 x4
      obtain ⟨tv,htv⟩:∃ tv,toldC l dd (j:Int) (rd_T87 ss (j:Int))=tv:=⟨_,rfl⟩
      have HTV:=Aside0.mk htv
      have HSK:=Aside0.mk (secOk_parts l dd (j:Int) (rd_T87 ss (j:Int)))
      rw [htv] at HSK
      clear htv
      generalize rd_T87 ss (j:Int)=x at x0 x1 x2 x3 x4 HSF HSK HTV
      have y0:=pw_cell_below SL.out.hB x0
      have y1:=pw_cell_below SL.out.hB x1
      have y2:=pw_cell_below SL.out.hB x2
      have y3:=pw_cell_below SL.out.hB x3
      have y4:=pw_cell_below SL.out.hB x4
      clear x0 x1 x2 x3 x4
      go_upto_region 6 with ((with_reducible refine gate_dst (N:=6) rfl ?_);refine box_event ?hg (N:=6) ?hd (cs:=#[.int .i64 0,.int .i64 0,.bool false,.bool false,.int .i64 0]) (t:=87) ?hr ?_;(case hd=>rfl);(case hg=>rfl);(case hr=>first|(go_simp;done)|(go_simp;rfl));intro gx ex wx kx bx;have EX:=Aside0.mk ex;have KX:=Aside0.mk kx;have BX:=Aside0.mk bx;have kx0:wx.cell? ⟨gx,0,none⟩=some (.int .i64 0):=(blk_cell KX.out 0).trans rfl;have kx1:wx.cell? ⟨gx,1,none⟩=some (.int .i64 0):=(blk_cell KX.out 1).trans rfl;have kx2:wx.cell? ⟨gx,2,none⟩=some (.bool false):=(blk_cell KX.out 2).trans rfl;have kx3:wx.cell? ⟨gx,3,none⟩=some (.bool false):=(blk_cell KX.out 3).trans rfl;have kx4:wx.cell? ⟨gx,4,none⟩=some (.int .i64 0):=(blk_cell KX.out 4).trans rfl;have zx0:=blk_frozen KX.out 0;have zx1:=blk_frozen KX.out 1;have zx2:=blk_frozen KX.out 2;have zx3:=blk_frozen KX.out 3;have zx4:=blk_frozen KX.out 4;clear ex kx bx)
      have S2:=Aside0.mk (SL.out.fill (y0:=.int .i64 x.f0) (y1:=.int .i64 x.f1) (y2:=.bool x.f2) (y3:=.bool x.f3) (y4:=.int .i64 x.f4) KX.out BX.out (Nat.le_of_eq EX.out.symm))
      clear kx0 kx1 kx2 kx3 kx4 zx0 zx1 zx2 zx3 zx4 KX BX y0 y1 y2 y3 y4
      generalize ((((wx.setCell ⟨gx,0,none⟩ (.int .i64 x.f0)).setCell ⟨gx,1,none⟩ (.int .i64 x.f1)).setCell ⟨gx,2,none⟩ (.bool x.f2)).setCell ⟨gx,3,none⟩ (.bool x.f3)).setCell ⟨gx,4,none⟩ (.int .i64 x.f4)=w2 at S2 ⊢
      obtain ⟨r1,hr1v⟩:∃ r1,(decide (-1000000≤x.f1) && decide (x.f1≤1000000))=r1:=⟨_,rfl⟩
      obtain ⟨r2,hr2v⟩:∃ r2,(decide (-1≤x.f4) && decide (x.f4≤1))=r2:=⟨_,rfl⟩
      have HR1V:=Aside0.mk hr1v
      have HR2V:=Aside0.mk hr2v
      clear hr1v hr2v
      go_cut [60] from 36 to 100 (fun y wx=>∃ r,y=.bool r∧Aside0 (r=(!r1 || !r2 || (x.f0 != tv)))∧Aside0 (SeSt w wx gl gz gx [.int .i64 n,.slice A l.length c] [.bool true,.slice (some ad) ss.length c1,.slice A2 dd.length c2] [.int .i64 x.f0,.int .i64 x.f1,.bool x.f2,.bool x.f3,.int .i64 x.f4]))
      case first =>
        have SD:=Aside0.mk (S2.out.up (below_drew1 (Below.refl w2.heap.size w2)))
        have kl0:w2.drew.cell? ⟨gl,0,none⟩=some (.int .i64 n):=(blk_cell SD.out.S.hl 0).trans rfl
        have kl1:w2.drew.cell? ⟨gl,1,none⟩=some (.slice A l.length c):=(blk_cell SD.out.S.hl 1).trans rfl
        have kz0:w2.drew.cell? ⟨gz,0,none⟩=some (.bool true):=(blk_cell SD.out.S.hz 0).trans rfl
        have kz1:w2.drew.cell? ⟨gz,1,none⟩=some (.slice (some ad) ss.length c1):=(blk_cell SD.out.S.hz 1).trans rfl
        have kz2:w2.drew.cell? ⟨gz,2,none⟩=some (.slice A2 dd.length c2):=(blk_cell SD.out.S.hz 2).trans rfl
        have kx0:w2.drew.cell? ⟨gx,0,none⟩=some (.int .i64 x.f0):=(blk_cell SD.out.hx 0).trans rfl
        have kx1:w2.drew.cell? ⟨gx,1,none⟩=some (.int .i64 x.f1):=(blk_cell SD.out.hx 1).trans rfl
        have kx2:w2.drew.cell? ⟨gx,2,none⟩=some (.bool x.f2):=(blk_cell SD.out.hx 2).trans rfl
        have kx3:w2.drew.cell? ⟨gx,3,none⟩=some (.bool x.f3):=(blk_cell SD.out.hx 3).trans rfl
        have kx4:w2.drew.cell? ⟨gx,4,none⟩=some (.int .i64 x.f4):=(blk_cell SD.out.hx 4).trans rfl
        have hways:r1=false ∨ (r1=true∧r2=false) ∨ (r1=true∧r2=true):=by cases r1 <;> cases r2 <;> simp
        rcases hways with rfl|⟨rfl,rfl⟩|⟨rfl,rfl⟩
        all_goals
          refine startK 21 (S:=fun w'=>w'.cell? ⟨gl,0,none⟩=some (.int .i64 n)∧w'.cell? ⟨gl,1,none⟩=some (.slice A l.length c)∧w'.cell? ⟨gz,0,none⟩=some (.bool true)∧w'.cell? ⟨gz,1,none⟩=some (.slice (some ad) ss.length c1)∧w'.cell? ⟨gz,2,none⟩=some (.slice A2 dd.length c2)∧w'.cell? ⟨gx,0,none⟩=some (.int .i64 x.f0)∧w'.cell? ⟨gx,1,none⟩=some (.int .i64 x.f1)∧w'.cell? ⟨gx,2,none⟩=some (.bool x.f2)∧w'.cell? ⟨gx,3,none⟩=some (.bool x.f3)∧w'.cell? ⟨gx,4,none⟩=some (.int .i64 x.f4)) (ds:=[]) (by kernel_rfl) rfl ⟨kl0,kl1,kz0,kz1,kz2,kx0,kx1,kx2,kx3,kx4⟩ (fun hHeld=>?_)
          refine with_tabW st_tab6 st_bits6 (fun HT_ HW_=>?_)
          repeat (first
            | (refine take0 (v:=?_) (a':=?_) (by simp only [Nat.reduceAdd];rfl) (by rfl) HT_.out HW_.out (by kernel_rfl) (by exact fun _ _ _ h=>h) hHeld ?_ ?_ ?_;rotate_left 2;(· rintro w' ⟨s0,s1,s2,s3,s4,s5,s6,s7,s8,s9⟩;go_simp;with_reducible rfl);(· simp only [Act.put,List.setIfInBounds_toArray,List.set_cons_zero,List.set_cons_succ,i64_w,i32_w];rfl))
            | (refine takeG (v:=?_) (a':=?_) (by simp only [Nat.reduceAdd];rfl) (by rfl) (by rfl) HT_.out HW_.out (by kernel_rfl) (by exact fun _ _ _ h=>h) hHeld ?_ ?_ ?_;rotate_left 2;(· first|(rw [if_neg (by decide)];done)|(rw [if_pos (by decide)];rintro w' ⟨s0,s1,s2,s3,s4,s5,s6,s7,s8,s9⟩;go_simp;with_reducible rfl));(· simp only [Act.put,List.setIfInBounds_toArray,List.set_cons_zero,List.set_cons_succ,i64_w,i32_w];rfl))
            | (refine oneK (by simp only [Nat.reduceAdd];rfl) (by rfl) HT_.out (by kernel_rfl) (by decide) (fun K hK=>?_);refine goes_ Tryd.func51 (by kernel_rfl) rfl #[.int .i64 x.f1,.int .i64 (-1000000),.int .i64 1000000] (by rfl) rfl rfl (by (try simp only [List.map_toArray,List.map_cons,List.map_nil]);first|done|rfl|(simp only [List.length_drop,List.length_take];rfl)) ?_;((with_reducible refine (in_v HR1V.out _).mono ?_);rintro e w' ⟨rfl,hb⟩);refine ⟨_,rfl,?_⟩;have SD:=Aside0.mk (SD.out.up hb);refine hK.out _ _ ⟨pw_cell_below hb hHeld.1,pw_cell_below hb hHeld.2.1,pw_cell_below hb hHeld.2.2.1,pw_cell_below hb hHeld.2.2.2.1,pw_cell_below hb hHeld.2.2.2.2.1,pw_cell_below hb hHeld.2.2.2.2.2.1,pw_cell_below hb hHeld.2.2.2.2.2.2.1,pw_cell_below hb hHeld.2.2.2.2.2.2.2.1,pw_cell_below hb hHeld.2.2.2.2.2.2.2.2.1,pw_cell_below hb hHeld.2.2.2.2.2.2.2.2.2⟩ (fun hHeld=>?_);clear hK K;refine norm_ (a':=?_) ?_ ?_;rotate_left;(· simp only [Act.put,List.setIfInBounds_toArray,List.set_cons_zero,List.set_cons_succ,i64_w,i32_w];rfl))
            | (refine oneK (by simp only [Nat.reduceAdd];rfl) (by rfl) HT_.out (by kernel_rfl) (by decide) (fun K hK=>?_);refine goes_ Tryd.func51 (by kernel_rfl) rfl #[.int .i64 x.f4,.int .i64 (-1),.int .i64 1] (by rfl) rfl rfl (by (try simp only [List.map_toArray,List.map_cons,List.map_nil]);first|done|rfl|(simp only [List.length_drop,List.length_take];rfl)) ?_;((with_reducible refine (in_v HR2V.out _).mono ?_);rintro e w' ⟨rfl,hb⟩);refine ⟨_,rfl,?_⟩;have SD:=Aside0.mk (SD.out.up hb);refine hK.out _ _ ⟨pw_cell_below hb hHeld.1,pw_cell_below hb hHeld.2.1,pw_cell_below hb hHeld.2.2.1,pw_cell_below hb hHeld.2.2.2.1,pw_cell_below hb hHeld.2.2.2.2.1,pw_cell_below hb hHeld.2.2.2.2.2.1,pw_cell_below hb hHeld.2.2.2.2.2.2.1,pw_cell_below hb hHeld.2.2.2.2.2.2.2.1,pw_cell_below hb hHeld.2.2.2.2.2.2.2.2.1,pw_cell_below hb hHeld.2.2.2.2.2.2.2.2.2⟩ (fun hHeld=>?_);clear hK K;refine norm_ (a':=?_) ?_ ?_;rotate_left;(· simp only [Act.put,List.setIfInBounds_toArray,List.set_cons_zero,List.set_cons_succ,i64_w,i32_w];rfl))
            | (refine oneK (by simp only [Nat.reduceAdd];rfl) (by rfl) HT_.out (by kernel_rfl) (by decide) (fun K hK=>?_);refine goes_ Tryd.func72 (by kernel_rfl) rfl #[.agg #[.int .i64 n,.slice A l.length c],.slice A2 dd.length c2,.int .i64 (j:Int),.agg #[.int .i64 x.f0,.int .i64 x.f1,.bool x.f2,.bool x.f3,.int .i64 x.f4]] (by rfl) rfl rfl (by (try simp only [List.map_toArray,List.map_cons,List.map_nil]);first|done|rfl|(simp only [List.length_drop,List.length_take];rfl)) ?_;((with_reducible refine (stold_v (j:Int) HTV.out (Kd.C_below HR.out SD.out.S.hB) HC.out (Kd.C_below HR2.out SD.out.S.hB) HC2.out HL.out q0 HJN.out HDL.out).mono ?_);rintro e w' ⟨rfl,hb⟩);refine ⟨_,rfl,?_⟩;have SD:=Aside0.mk (SD.out.up hb);refine hK.out _ _ ⟨pw_cell_below hb hHeld.1,pw_cell_below hb hHeld.2.1,pw_cell_below hb hHeld.2.2.1,pw_cell_below hb hHeld.2.2.2.1,pw_cell_below hb hHeld.2.2.2.2.1,pw_cell_below hb hHeld.2.2.2.2.2.1,pw_cell_below hb hHeld.2.2.2.2.2.2.1,pw_cell_below hb hHeld.2.2.2.2.2.2.2.1,pw_cell_below hb hHeld.2.2.2.2.2.2.2.2.1,pw_cell_below hb hHeld.2.2.2.2.2.2.2.2.2⟩ (fun hHeld=>?_);clear hK K;refine norm_ (a':=?_) ?_ ?_;rotate_left;(· simp only [Act.put,List.setIfInBounds_toArray,List.set_cons_zero,List.set_cons_succ,i64_w,i32_w];rfl)))
          refine done_ (done_of HT_.out (by kernel_rfl)) ?_
          go_wp2_with fail
          go_meet
          exact ⟨_,rfl,⟨by simp only [Bool.or_true,Bool.true_or,Bool.false_or,Bool.or_false,Bool.not_true,Bool.not_false]⟩,SD⟩
      case rest =>
        obtain ⟨r6,rfl,H6,SD⟩:=hcut
        clear S2
        have W1:=Aside0.mk (show wrap64 ((j:Int)+1)=((j+1:Nat):Int) from (wrap_id (by omega) (by have:=H60.out;omega)).trans (by omega))
        cases r6 with
        | true =>
          have HFF:=Aside0.mk (show so=false by rw [HSF.out,HSK.out.1 (bad_of HR1V.out HR2V.out H6.out.symm)];rfl)
          go_wp2_with fail
          go_ret
          exact ⟨by rw [HFF.out];rfl,SD.out.S.hB⟩
        | false =>
          have HRV:=Aside0.mk (HSK.out.2 (bad_of HR1V.out HR2V.out H6.out.symm))
          clear HSK H6 HTV
          have kl0:wc.cell? ⟨gl,0,none⟩=some (.int .i64 n):=(blk_cell SD.out.S.hl 0).trans rfl
          have kl1:wc.cell? ⟨gl,1,none⟩=some (.slice A l.length c):=(blk_cell SD.out.S.hl 1).trans rfl
          have kz0:wc.cell? ⟨gz,0,none⟩=some (.bool true):=(blk_cell SD.out.S.hz 0).trans rfl
          have kz1:wc.cell? ⟨gz,1,none⟩=some (.slice (some ad) ss.length c1):=(blk_cell SD.out.S.hz 1).trans rfl
          have kz2:wc.cell? ⟨gz,2,none⟩=some (.slice A2 dd.length c2):=(blk_cell SD.out.S.hz 2).trans rfl
          have kx0:wc.cell? ⟨gx,0,none⟩=some (.int .i64 x.f0):=(blk_cell SD.out.hx 0).trans rfl
          have kx1:wc.cell? ⟨gx,1,none⟩=some (.int .i64 x.f1):=(blk_cell SD.out.hx 1).trans rfl
          have kx2:wc.cell? ⟨gx,2,none⟩=some (.bool x.f2):=(blk_cell SD.out.hx 2).trans rfl
          have kx3:wc.cell? ⟨gx,3,none⟩=some (.bool x.f3):=(blk_cell SD.out.hx 3).trans rfl
          have kx4:wc.cell? ⟨gx,4,none⟩=some (.int .i64 x.f4):=(blk_cell SD.out.hx 4).trans rfl
          rw [HRV.out] at HSF
          clear HRV
          cases hp:decide (x.f1<0) <;> cases hq:x.f2 <;> cases hd:deadAt l dd (j:Int) <;> cases hr:x.f3 <;> cases hz:(x.f1==0) <;> cases hm:(x.f4==-1) <;> rw [hp,hq,hd,hr,hz,hm] at HSF <;>
          (rw [hq] at kx2
           rw [hr] at kx3
           have HD:=Aside0.mk hd
           clear hd
           go_wp2_with (go_at_call 71;refine (sdeadv (j:Int) HD.out (Kd.C_below HR.out SD.out.S.hB) HC.out (Kd.C_below HR2.out SD.out.S.hB) HC2.out HL.out q0 HJN.out HDL.out).mono ?_;rintro e w9 ⟨rfl,hb⟩;have SD:=Aside0.mk (SD.out.up hb);have kx0:=pw_cell_below hb kx0;have kx1:=pw_cell_below hb kx1;have kx2:=pw_cell_below hb kx2;have kx3:=pw_cell_below hb kx3;have kx4:=pw_cell_below hb kx4;clear hb)
           first
           | (go_roundg gk
              case measure=>omega
              case rel=>exact ⟨j+1,congrArg (Value.int .i64) W1.out,⟨by have:=HJ.out;omega⟩,⟨HSF.out.trans rfl⟩,⟨SD.out.S⟩⟩)
           | (go_ret
              exact ⟨by rw [HSF.out];rfl,SD.out.S.hB⟩))
    · have hlt':decide ((j:Int)<(ss.length:Int))=false:=decide_eq_false (by omega)
      have HFT:=Aside0.mk (show so=true by rw [HSF.out,show gk=0 by have:=HJ.out;omega];rfl)
      go_wp2
      go_ret
      exact ⟨by rw [HFT.out];rfl,SL.out.hB⟩
theorem sst_ok {n:Int} {A:Option Addr} {c:Nat} {l:List S98} {b:Bool} {A1:Option Addr} {c1:Nat} {ss:List S87} {A2:Option Addr} {c2:Nat} {dd:List Bool} {w:World}
  (hst:stateOk n l b ss dd=true) (hr:Kd.C k98 w A l.length l) (hc:l.length≤c) (hr1:Kd.C k87 w A1 ss.length ss) (hc1:ss.length≤c1) (hr2:Kd.C Kd.bool w A2 dd.length dd) (hc2:dd.length≤c2) :
  Calls Tryd.prog 69 #[.agg #[.int .i64 n,.slice A l.length c],.agg #[.bool b,.slice A1 ss.length c1,.slice A2 dd.length c2]] w fun e w'=>e=.returned (.bool true)∧Below w.heap.size w w':=by
 have h:=sst_any (n:=n) (b:=b) hr hc hr1 hc1 hr2 hc2
 rwa [hst] at h
end Go.Proofs.YtpdnabhpkdchjaaDoor.P
namespace Go.Proofs.YtpdnabhpkdchjaaDoor.P
open Go.RowKit Go.Proofs.YtpdnabhpkdchjaaDoorW.PrintWords Go.Proofs.YtpdnabhpkdchjaaDoorW.PrintLast Go.Proofs.YtpdnabhpkdchjaaDoorW.PrintMore
attribute [local go_sem ↓] Go.wp_at_zero Go.wp_at_succ
set_option linter.unusedVariables false
set_option linter.unusedSimpArgs false
def sd_T38:Bool × List (List Nat × List Nat):=(true,[([],[]),([0],[0]),([],[]),([],[]),([],[]),([4],[4]),([],[]),([],[]),([7],[7]),([],[]),([8,9],[8,9]),([10],[10]),([3,5,6,11],[3,5,6,11]),([1,2,0,1,2,3,4,5,6,7,8,9,10,11,12],[1,2]),([13,0,1,2,3,4,5,6,7,8,9,10,11,12],[13]),([14,12,12,0,1,2,3,4,5,6,7,8,9,10,11,12],[12,14])])
def sd_B38:List Nat:=[0,1,0,0,0,16,0,0,128,0,896,1920,4088,8191,16383,32767]
theorem sd_tab38:rtab .any (opsOf Tryd.f59 38)=sd_T38:=by kernel_rfl
theorem sd_bits38:waitsOk sd_T38.2 sd_B38=true:=by kernel_rfl
structure SpSt (w0 w:World) (gl gz go ge gd:Nat) (lv zv sv ev dv:List Value) (v1 v2:Value) (ss:List S87) (dd:List Bool):Prop where
 D:DoSt w0 w gl go ge gd lv sv ev dv v1 v2 ss dd
 hz:w.heap[gz]?=some (.cells zv.toArray 83 (0,0))
section
variable {w0 w w' : World} {gl gz go ge gd : Nat} {lv zv sv ev dv : List Value} {v1 v2 : Value} {ss ss' : List S87} {dd dd' : List Bool}
theorem SpSt.up (h:SpSt w0 w gl gz go ge gd lv zv sv ev dv v1 v2 ss dd) (hb:Below w.heap.size w w'):SpSt w0 w' gl gz go ge gd lv zv sv ev dv v1 v2 ss dd:=⟨h.D.up hb,blk_below h.hz hb⟩
theorem SpSt.sec {gr m cr:Nat} (h:SpSt w0 w gl gz go ge gd lv zv sv ev dv (.slice (some ⟨gr,0,none⟩) m cr) v2 ss dd) (H1:Kd.R k87 87 w' w0.heap.size (fun _=>True) (.slice (some ⟨gr,0,none⟩) m cr) ss') (hg:w.grownBy w' (some gr)) :
  SpSt w0 w' gl gz go ge gd lv zv sv ev dv (.slice (some ⟨gr,0,none⟩) m cr) v2 ss' dd:=⟨h.D.sec H1 hg,blk_grown h.hz hg (Kd.R_ne h.D.H1 h.hz (by decide))⟩
theorem SpSt.dead {gb m cb:Nat} (h:SpSt w0 w gl gz go ge gd lv zv sv ev dv v1 (.slice (some ⟨gb,0,none⟩) m cb) ss dd) (i:Int) (x:Bool) :
  SpSt w0 (w.setCell ⟨gb,i.toNat,none⟩ (.bool x)) gl gz go ge gd lv zv sv ev dv v1 (.slice (some ⟨gb,0,none⟩) m cb) ss (dd.set i.toNat x) :=
 ⟨h.D.dead i x,blk_grown h.hz (Kd.R_putg h.D.H2 i x).2 (Kd.R_ne h.D.H2 h.hz (by decide))⟩
end
theorem in_any (s:Int) (bo:Bool) (g gr n c:Nat) (v2:Value) (l:List S87) (w:World) (base:Nat) (ok:Nat→Prop) (h1:s<n)
  (hb:w.heap[g]?=some (.cells #[.bool bo,.slice (some ⟨gr,0,none⟩) n c,v2] 83 (0,0))) (HO:Kd.R k87 87 w base ok (.slice (some ⟨gr,0,none⟩) n c) l) :
  Calls Tryd.prog 70 #[.pointer (some ⟨g,0,none⟩),.int .i64 s,.int .i64 1] w fun e w'=>e=.returned (.tuple #[])∧Kd.R k87 87 w' base ok (.slice (some ⟨gr,0,none⟩) n c) (addS l s 1)∧w.grownBy w' (some gr):=by
 by_cases h0:s<0
 ·refine (add_none s 1 _ w h0).mono ?_
  rintro e w' ⟨he,rfl⟩
  exact ⟨he,by rw [addS,if_pos h0];exact HO,World.grownBy.refl w _⟩
 rw [addS,if_neg h0]
 exact add_in s bo g gr n c v2 l w base ok (by omega) h1 hb HO
theorem out_any (s:Int) (bo:Bool) (g gr n c:Nat) (v2:Value) (l:List S87) (w:World) (base:Nat) (ok:Nat→Prop) (h1:s<n)
  (hb:w.heap[g]?=some (.cells #[.bool bo,.slice (some ⟨gr,0,none⟩) n c,v2] 83 (0,0))) (HO:Kd.R k87 87 w base ok (.slice (some ⟨gr,0,none⟩) n c) l) :
  Calls Tryd.prog 70 #[.pointer (some ⟨g,0,none⟩),.int .i64 s,.int .i64 (-1)] w fun e w'=>e=.returned (.tuple #[])∧Kd.R k87 87 w' base ok (.slice (some ⟨gr,0,none⟩) n c) (addS l s (-1))∧w.grownBy w' (some gr):=by
 by_cases h0:s<0
 ·refine (add_none s (-1) _ w h0).mono ?_
  rintro e w' ⟨he,rfl⟩
  exact ⟨he,by rw [addS,if_pos h0];exact HO,World.grownBy.refl w _⟩
 rw [addS,if_neg h0]
 exact add_out s bo g gr n c v2 l w base ok (by omega) h1 hb HO
section
variable {n : Int} {A : Option Addr} {c : Nat} {l : List S98} {b : Bool} {A1 : Option Addr} {c1 : Nat} {ss : List S87} {A2 : Option Addr} {c2 : Nat} {dd : List Bool} {w : World}
theorem sev_at {v:Bool} (op of dir:Int) (hv:eventOk n l op of dir=v) (hr:Kd.C k98 w A l.length l) (hc:l.length≤c):Calls Tryd.prog 26 #[.agg #[.int .i64 n,.slice A l.length c],.agg #[.int .i64 op,.int .i64 of,.int .i64 dir]] w fun e w'=>e=.returned (.bool v)∧Below w.heap.size w w':=hv ▸ sev_is op of dir hr hc
theorem sdead_at {x:Bool} (i:Int) (hx:deadAt l dd i=x) (hr:Kd.C k98 w A l.length l) (hc:l.length≤c) (hr2:Kd.C Kd.bool w A2 dd.length dd) (hc2:dd.length≤c2) (hl:layoutOk n l=0) (h0:0≤i) (h1:i<n) (hd:dd.length=l.length) :
  Calls Tryd.prog 71 #[.agg #[.int .i64 n,.slice A l.length c],.slice A2 dd.length c2,.int .i64 i] w fun e w'=>e=.returned (.bool x)∧Below w.heap.size w w':=by
 obtain ⟨k,h⟩:=(specDead_ev n l dd i hl ⟨h0,h1⟩ hd).rounds
 rw [← hx]
 exact spec_l2dead.calls k n A c l A2 c2 dd i _ w hr hc hr2 hc2 h
theorem stold_of {m2 b2:Nat} {o2:Nat→Prop} (i:Int) (x:S87) (hr:Kd.C k98 w A l.length l) (hc:l.length≤c) (H2:Kd.R Kd.bool 4 w b2 o2 (.slice A2 m2 c2) dd) (e2:m2=dd.length) (hl:layoutOk n l=0) (h0:0≤i) (h1:i<n) (hd:dd.length=l.length) :
  Calls Tryd.prog 72 #[.agg #[.int .i64 n,.slice A l.length c],.slice A2 m2 c2,.int .i64 i,.agg #[.int .i64 x.f0,.int .i64 x.f1,.bool x.f2,.bool x.f3,.int .i64 x.f4]] w fun e w'=>e=.returned (.int .i64 (toldC l dd i x))∧Below w.heap.size w w':=by
 subst e2
 obtain ⟨k,h⟩:=(specTold_ev n l dd i x hl ⟨h0,h1⟩ hd).rounds
 exact spec_l2told.calls k n A c l A2 c2 dd i x.f0 x.f1 x.f2 x.f3 x.f4 _ w hr hc (Kd.R_reads' H2).2.2 (Kd.R_reads' H2).2.1 h
end
def loseTo (ss:List S87) (f t:Int):Nat→List S87
 | 0=>ss
 | 1=>loseAt ss f
 | _=>loseAt (loseAt ss f) t
set_option maxHeartbeats 4000000 in
set_option maxRecDepth 100000 in
theorem sdo_badE (n:Int) (A:Option Addr) (c:Nat) (l:List S98) (b:Bool) (A1:Option Addr) (c1:Nat) (ss:List S87) (A2:Option Addr) (c2:Nat) (dd:List Bool) (op of dir:Int) (w:World)
  (hr:Kd.C k98 w A l.length l) (hc:l.length≤c) (hr1:Kd.C k87 w A1 ss.length ss) (hc1:ss.length≤c1) (hr2:Kd.C Kd.bool w A2 dd.length dd) (hc2:dd.length≤c2) (hst:stateOk n l b ss dd=true) (hev:eventOk n l op of dir=false) :
  Calls Tryd.prog 59 #[.agg #[.int .i64 n,.slice A l.length c],.agg #[.bool b,.slice A1 ss.length c1,.slice A2 dd.length c2],.agg #[.int .i64 op,.int .i64 of,.int .i64 dir]] w fun e w'=>e=.returned (.agg #[.int .i64 1,.bool false,.slice none 0 0,.slice none 0 0])∧Below w.heap.size w w':=by
 have HR:=Aside0.mk hr
 have HR1:=Aside0.mk hr1
 have HR2:=Aside0.mk hr2
 clear hr hr1 hr2
 go_enter Tryd.func59,Tryd.ntmps59
 go_upto_region 1 with (first|((with_reducible refine gate_dst (N:=3) rfl ?_);refine box_event ?hg (N:=3) ?hd (cs:=#[.int .i64 n,.slice A l.length c]) (t:=31) ?hr ?_;(case hd=>rfl);(case hg=>rfl);(case hr=>first|(go_simp;done)|(go_simp;rfl));intro gl el wl kl bl)|((with_reducible refine gate_dst (N:=4) rfl ?_);refine box_event ?hg (N:=4) ?hd (cs:=#[.bool b,.slice A1 ss.length c1,.slice A2 dd.length c2]) (t:=83) ?hr ?_;(case hd=>rfl);(case hg=>rfl);(case hr=>first|(go_simp;done)|(go_simp;rfl));intro gz ez wz kz bz)|((with_reducible refine gate_dst (N:=5) rfl ?_);refine box_event ?hg (N:=5) ?hd (cs:=#[.int .i64 op,.int .i64 of,.int .i64 dir]) (t:=52) ?hr ?_;(case hd=>rfl);(case hg=>rfl);(case hr=>first|(go_simp;done)|(go_simp;rfl));intro ge ee we ke be)|((with_reducible refine gate_dst (N:=6) rfl ?_);refine box_event ?hg (N:=6) ?hd (cs:=#[.int .i64 0,.bool false,.slice none 0 0,.slice none 0 0]) (t:=85) ?hr ?_;(case hd=>rfl);(case hg=>rfl);(case hr=>first|(go_simp;done)|(go_simp;rfl));intro gd ed wd kd_ bd))
 have KL:=Aside0.mk (blk_below (blk_below (blk_below kl bz) be) bd)
 have KZ:=Aside0.mk (blk_below (blk_below kz be) bd)
 have KE:=Aside0.mk (blk_below ke bd)
 have KD:=Aside0.mk kd_
 have BB:=Aside0.mk (below_step (below_step (below_step bl bz) be) bd)
 have GL:=Aside0.mk (show w.heap.size≤gl by rw [el];exact Nat.le_refl _)
 have GZ:=Aside0.mk (show w.heap.size≤gz by rw [ez];exact bl.size)
 have GE:=Aside0.mk (show w.heap.size≤ge by rw [ee];exact (below_step bl bz).size)
 have GD:=Aside0.mk (show w.heap.size≤gd by rw [ed];exact (below_step (below_step bl bz) be).size)
 clear kl kz ke kd_ bl bz be bd el ez ee ed
 simp only [Act.put,List.setIfInBounds_toArray,List.set_cons_zero,List.set_cons_succ]
 have kl0:wd.cell? ⟨gl,0,none⟩=some (.int .i64 n):=(blk_cell KL.out 0).trans rfl
 have kl1:wd.cell? ⟨gl,1,none⟩=some (.slice A l.length c):=(blk_cell KL.out 1).trans rfl
 have kz0:wd.cell? ⟨gz,0,none⟩=some (.bool b):=(blk_cell KZ.out 0).trans rfl
 have kz1:wd.cell? ⟨gz,1,none⟩=some (.slice A1 ss.length c1):=(blk_cell KZ.out 1).trans rfl
 have kz2:wd.cell? ⟨gz,2,none⟩=some (.slice A2 dd.length c2):=(blk_cell KZ.out 2).trans rfl
 have ke0:wd.cell? ⟨ge,0,none⟩=some (.int .i64 op):=(blk_cell KE.out 0).trans rfl
 have ke1:wd.cell? ⟨ge,1,none⟩=some (.int .i64 of):=(blk_cell KE.out 1).trans rfl
 have ke2:wd.cell? ⟨ge,2,none⟩=some (.int .i64 dir):=(blk_cell KE.out 2).trans rfl
 have kd0:wd.cell? ⟨gd,0,none⟩=some (.int .i64 0):=(blk_cell KD.out 0).trans rfl
 have kd1:wd.cell? ⟨gd,1,none⟩=some (.bool false):=(blk_cell KD.out 1).trans rfl
 have kd2:wd.cell? ⟨gd,2,none⟩=some (.slice none 0 0):=(blk_cell KD.out 2).trans rfl
 have kd3:wd.cell? ⟨gd,3,none⟩=some (.slice none 0 0):=(blk_cell KD.out 3).trans rfl
 have zd0:=blk_frozen KD.out 0
 have zd1:=blk_frozen KD.out 1
 have zd2:=blk_frozen KD.out 2
 have zd3:=blk_frozen KD.out 3
 go_wp2_with (first|(go_at_call 69;refine (sst_ok hst (Kd.C_below HR.out BB.out) hc (Kd.C_below HR1.out BB.out) hc1 (Kd.C_below HR2.out BB.out) hc2).mono ?_;rintro e w1 ⟨rfl,hb⟩;have KL:=Aside0.mk (blk_below KL.out hb);have KZ:=Aside0.mk (blk_below KZ.out hb);have KE:=Aside0.mk (blk_below KE.out hb);have KD:=Aside0.mk (blk_below KD.out hb);have BB:=Aside0.mk (below_step BB.out hb);clear hb;have kl0:w1.cell? ⟨gl,0,none⟩=some (.int .i64 n):=(blk_cell KL.out 0).trans rfl;have kl1:w1.cell? ⟨gl,1,none⟩=some (.slice A l.length c):=(blk_cell KL.out 1).trans rfl;have kz0:w1.cell? ⟨gz,0,none⟩=some (.bool b):=(blk_cell KZ.out 0).trans rfl;have kz1:w1.cell? ⟨gz,1,none⟩=some (.slice A1 ss.length c1):=(blk_cell KZ.out 1).trans rfl;have kz2:w1.cell? ⟨gz,2,none⟩=some (.slice A2 dd.length c2):=(blk_cell KZ.out 2).trans rfl;have ke0:w1.cell? ⟨ge,0,none⟩=some (.int .i64 op):=(blk_cell KE.out 0).trans rfl;have ke1:w1.cell? ⟨ge,1,none⟩=some (.int .i64 of):=(blk_cell KE.out 1).trans rfl;have ke2:w1.cell? ⟨ge,2,none⟩=some (.int .i64 dir):=(blk_cell KE.out 2).trans rfl;have kd0:w1.cell? ⟨gd,0,none⟩=some (.int .i64 0):=(blk_cell KD.out 0).trans rfl;have kd1:w1.cell? ⟨gd,1,none⟩=some (.bool false):=(blk_cell KD.out 1).trans rfl;have kd2:w1.cell? ⟨gd,2,none⟩=some (.slice none 0 0):=(blk_cell KD.out 2).trans rfl;have kd3:w1.cell? ⟨gd,3,none⟩=some (.slice none 0 0):=(blk_cell KD.out 3).trans rfl;have zd0:=blk_frozen KD.out 0;have zd1:=blk_frozen KD.out 1;have zd2:=blk_frozen KD.out 2;have zd3:=blk_frozen KD.out 3)|(go_at_call 26;refine (sev_at op of dir hev (Kd.C_below HR.out BB.out) hc).mono ?_;rintro e w2 ⟨rfl,hb⟩;have KL:=Aside0.mk (blk_below KL.out hb);have KZ:=Aside0.mk (blk_below KZ.out hb);have KE:=Aside0.mk (blk_below KE.out hb);have KD:=Aside0.mk (blk_below KD.out hb);have BB:=Aside0.mk (below_step BB.out hb);clear hb;have kl0:w2.cell? ⟨gl,0,none⟩=some (.int .i64 n):=(blk_cell KL.out 0).trans rfl;have kl1:w2.cell? ⟨gl,1,none⟩=some (.slice A l.length c):=(blk_cell KL.out 1).trans rfl;have kz0:w2.cell? ⟨gz,0,none⟩=some (.bool b):=(blk_cell KZ.out 0).trans rfl;have kz1:w2.cell? ⟨gz,1,none⟩=some (.slice A1 ss.length c1):=(blk_cell KZ.out 1).trans rfl;have kz2:w2.cell? ⟨gz,2,none⟩=some (.slice A2 dd.length c2):=(blk_cell KZ.out 2).trans rfl;have ke0:w2.cell? ⟨ge,0,none⟩=some (.int .i64 op):=(blk_cell KE.out 0).trans rfl;have ke1:w2.cell? ⟨ge,1,none⟩=some (.int .i64 of):=(blk_cell KE.out 1).trans rfl;have ke2:w2.cell? ⟨ge,2,none⟩=some (.int .i64 dir):=(blk_cell KE.out 2).trans rfl;have kd0:w2.cell? ⟨gd,0,none⟩=some (.int .i64 0):=(blk_cell KD.out 0).trans rfl;have kd1:w2.cell? ⟨gd,1,none⟩=some (.bool false):=(blk_cell KD.out 1).trans rfl;have kd2:w2.cell? ⟨gd,2,none⟩=some (.slice none 0 0):=(blk_cell KD.out 2).trans rfl;have kd3:w2.cell? ⟨gd,3,none⟩=some (.slice none 0 0):=(blk_cell KD.out 3).trans rfl;have zd0:=blk_frozen KD.out 0;have zd1:=blk_frozen KD.out 1;have zd2:=blk_frozen KD.out 2;have zd3:=blk_frozen KD.out 3))
 have KF:=blk_put (blk_put (blk_put (blk_put KD.out 0 (.int .i64 1) rfl) 1 (.bool false) rfl) 2 (.slice none 0 0) rfl) 3 (.slice none 0 0) rfl
 have BF:=below_set (j:=3) (v:=.slice none 0 0) (below_set (j:=2) (v:=.slice none 0 0) (below_set (j:=1) (v:=.bool false) (below_set (j:=0) (v:=.int .i64 1) BB.out GD.out) GD.out) GD.out) GD.out
 exact bodyPost_ret (results_cell_row rfl _ _ gd 85 _ (0,0) _ rfl KF Tryd.underlying85 rfl (by kernel_rfl)) rfl ⟨rfl,BF⟩
set_option maxHeartbeats 16000000 in
set_option maxRecDepth 100000 in
theorem sdo_is (n:Int) (A:Option Addr) (c:Nat) (l:List S98) (b:Bool) (A1:Option Addr) (c1:Nat) (ss:List S87) (A2:Option Addr) (c2:Nat) (dd:List Bool) (op of dir:Int) (w:World)
  (hr:Kd.C k98 w A l.length l) (hc:l.length≤c) (hr1:Kd.C k87 w A1 ss.length ss) (hc1:ss.length≤c1) (hr2:Kd.C Kd.bool w A2 dd.length dd) (hc2:dd.length≤c2)
  (hst:stateOk n l b ss dd=true) (hev:eventOk n l op of dir=true) :
  Calls Tryd.prog 59 #[.agg #[.int .i64 n,.slice A l.length c],.agg #[.bool b,.slice A1 ss.length c1,.slice A2 dd.length c2],.agg #[.int .i64 op,.int .i64 of,.int .i64 dir]] w fun e w'=>∃ v2_ v3_:Value,e=.returned (.agg #[.int .i64 (doCode l ss dd op of),.bool true,v2_,v3_])∧Kd.R k87 87 w' w.heap.size (fun _=>True) v2_ (doSecs l ss dd op of dir)∧Kd.R Kd.bool 4 w' w.heap.size (fun _=>True) v3_ (doDead l ss dd op of)∧Below w.heap.size w w':=by
 obtain ⟨hl,rfl,hns,hnd,hsec⟩:=stateOk_of hst
 have hn:=lay_n hl
 have hs:ss.length≤1048576:=by omega
 have hd:dd.length≤1048576:=by omega
 have hpos:0<ss.length:=by omega
 have HST:=Aside0.mk hst
 have HEV:=Aside0.mk hev
 have HSE:=Aside0.mk hsec
 have HN:=Aside0.mk (And.intro hl (And.intro hns (And.intro hnd hn)))
 clear hst hev hsec hl hns hnd hn
 have HR:=Aside0.mk hr
 have HR1:=Aside0.mk hr1
 have HR2:=Aside0.mk hr2
 clear hr hr1 hr2
 go_enter Tryd.func59,Tryd.ntmps59
 go_upto_region 1 with (first|((with_reducible refine gate_dst (N:=3) rfl ?_);refine box_event ?hg (N:=3) ?hd (cs:=#[.int .i64 n,.slice A l.length c]) (t:=31) ?hr ?_;(case hd=>rfl);(case hg=>rfl);(case hr=>first|(go_simp;done)|(go_simp;rfl));intro gl el wl kl bl)|((with_reducible refine gate_dst (N:=4) rfl ?_);refine box_event ?hg (N:=4) ?hd (cs:=#[.bool true,.slice A1 ss.length c1,.slice A2 dd.length c2]) (t:=83) ?hr ?_;(case hd=>rfl);(case hg=>rfl);(case hr=>first|(go_simp;done)|(go_simp;rfl));intro gz ez wz kz bz)|((with_reducible refine gate_dst (N:=5) rfl ?_);refine box_event ?hg (N:=5) ?hd (cs:=#[.int .i64 op,.int .i64 of,.int .i64 dir]) (t:=52) ?hr ?_;(case hd=>rfl);(case hg=>rfl);(case hr=>first|(go_simp;done)|(go_simp;rfl));intro ge ee we ke be)|((with_reducible refine gate_dst (N:=6) rfl ?_);refine box_event ?hg (N:=6) ?hd (cs:=#[.int .i64 0,.bool false,.slice none 0 0,.slice none 0 0]) (t:=85) ?hr ?_;(case hd=>rfl);(case hg=>rfl);(case hr=>first|(go_simp;done)|(go_simp;rfl));intro gd ed wd kd_ bd))
 have KL:=Aside0.mk (blk_below (blk_below (blk_below kl bz) be) bd)
 have KZ:=Aside0.mk (blk_below (blk_below kz be) bd)
 have KE:=Aside0.mk (blk_below ke bd)
 have KD:=Aside0.mk kd_
 have BB:=Aside0.mk (below_step (below_step (below_step bl bz) be) bd)
 have GL:=Aside0.mk (show w.heap.size≤gl by rw [el];exact Nat.le_refl _)
 have GZ:=Aside0.mk (show w.heap.size≤gz by rw [ez];exact bl.size)
 have GE:=Aside0.mk (show w.heap.size≤ge by rw [ee];exact (below_step bl bz).size)
 have GD:=Aside0.mk (show w.heap.size≤gd by rw [ed];exact (below_step (below_step bl bz) be).size)
 clear kl kz ke kd_ bl bz be bd el ez ee ed
 simp only [Act.put,List.setIfInBounds_toArray,List.set_cons_zero,List.set_cons_succ]
 have kl0:wd.cell? ⟨gl,0,none⟩=some (.int .i64 n):=(blk_cell KL.out 0).trans rfl
 have kl1:wd.cell? ⟨gl,1,none⟩=some (.slice A l.length c):=(blk_cell KL.out 1).trans rfl
 have kz0:wd.cell? ⟨gz,0,none⟩=some (.bool true):=(blk_cell KZ.out 0).trans rfl
 have kz1:wd.cell? ⟨gz,1,none⟩=some (.slice A1 ss.length c1):=(blk_cell KZ.out 1).trans rfl
 have kz2:wd.cell? ⟨gz,2,none⟩=some (.slice A2 dd.length c2):=(blk_cell KZ.out 2).trans rfl
 have ke0:wd.cell? ⟨ge,0,none⟩=some (.int .i64 op):=(blk_cell KE.out 0).trans rfl
 have ke1:wd.cell? ⟨ge,1,none⟩=some (.int .i64 of):=(blk_cell KE.out 1).trans rfl
 have ke2:wd.cell? ⟨ge,2,none⟩=some (.int .i64 dir):=(blk_cell KE.out 2).trans rfl
 have kd0:wd.cell? ⟨gd,0,none⟩=some (.int .i64 0):=(blk_cell KD.out 0).trans rfl
 have kd1:wd.cell? ⟨gd,1,none⟩=some (.bool false):=(blk_cell KD.out 1).trans rfl
 have kd2:wd.cell? ⟨gd,2,none⟩=some (.slice none 0 0):=(blk_cell KD.out 2).trans rfl
 have kd3:wd.cell? ⟨gd,3,none⟩=some (.slice none 0 0):=(blk_cell KD.out 3).trans rfl
 have zd0:=blk_frozen KD.out 0
 have zd1:=blk_frozen KD.out 1
 have zd2:=blk_frozen KD.out 2
 have zd3:=blk_frozen KD.out 3
 go_upto_region 4 with (first|(go_at_call 69;refine (sst_ok HST.out (Kd.C_below HR.out BB.out) hc (Kd.C_below HR1.out BB.out) hc1 (Kd.C_below HR2.out BB.out) hc2).mono ?_;rintro e w1 ⟨rfl,hb⟩;have KL:=Aside0.mk (blk_below KL.out hb);have KZ:=Aside0.mk (blk_below KZ.out hb);have KE:=Aside0.mk (blk_below KE.out hb);have KD:=Aside0.mk (blk_below KD.out hb);have BB:=Aside0.mk (below_step BB.out hb);clear hb;have kl0:w1.cell? ⟨gl,0,none⟩=some (.int .i64 n):=(blk_cell KL.out 0).trans rfl;have kl1:w1.cell? ⟨gl,1,none⟩=some (.slice A l.length c):=(blk_cell KL.out 1).trans rfl;have kz0:w1.cell? ⟨gz,0,none⟩=some (.bool true):=(blk_cell KZ.out 0).trans rfl;have kz1:w1.cell? ⟨gz,1,none⟩=some (.slice A1 ss.length c1):=(blk_cell KZ.out 1).trans rfl;have kz2:w1.cell? ⟨gz,2,none⟩=some (.slice A2 dd.length c2):=(blk_cell KZ.out 2).trans rfl;have ke0:w1.cell? ⟨ge,0,none⟩=some (.int .i64 op):=(blk_cell KE.out 0).trans rfl;have ke1:w1.cell? ⟨ge,1,none⟩=some (.int .i64 of):=(blk_cell KE.out 1).trans rfl;have ke2:w1.cell? ⟨ge,2,none⟩=some (.int .i64 dir):=(blk_cell KE.out 2).trans rfl;have kd0:w1.cell? ⟨gd,0,none⟩=some (.int .i64 0):=(blk_cell KD.out 0).trans rfl;have kd1:w1.cell? ⟨gd,1,none⟩=some (.bool false):=(blk_cell KD.out 1).trans rfl;have kd2:w1.cell? ⟨gd,2,none⟩=some (.slice none 0 0):=(blk_cell KD.out 2).trans rfl;have kd3:w1.cell? ⟨gd,3,none⟩=some (.slice none 0 0):=(blk_cell KD.out 3).trans rfl;have zd0:=blk_frozen KD.out 0;have zd1:=blk_frozen KD.out 1;have zd2:=blk_frozen KD.out 2;have zd3:=blk_frozen KD.out 3)|(go_at_call 26;refine (sev_at op of dir HEV.out (Kd.C_below HR.out BB.out) hc).mono ?_;rintro e w2 ⟨rfl,hb⟩;have KL:=Aside0.mk (blk_below KL.out hb);have KZ:=Aside0.mk (blk_below KZ.out hb);have KE:=Aside0.mk (blk_below KE.out hb);have KD:=Aside0.mk (blk_below KD.out hb);have BB:=Aside0.mk (below_step BB.out hb);clear hb;have kl0:w2.cell? ⟨gl,0,none⟩=some (.int .i64 n):=(blk_cell KL.out 0).trans rfl;have kl1:w2.cell? ⟨gl,1,none⟩=some (.slice A l.length c):=(blk_cell KL.out 1).trans rfl;have kz0:w2.cell? ⟨gz,0,none⟩=some (.bool true):=(blk_cell KZ.out 0).trans rfl;have kz1:w2.cell? ⟨gz,1,none⟩=some (.slice A1 ss.length c1):=(blk_cell KZ.out 1).trans rfl;have kz2:w2.cell? ⟨gz,2,none⟩=some (.slice A2 dd.length c2):=(blk_cell KZ.out 2).trans rfl;have ke0:w2.cell? ⟨ge,0,none⟩=some (.int .i64 op):=(blk_cell KE.out 0).trans rfl;have ke1:w2.cell? ⟨ge,1,none⟩=some (.int .i64 of):=(blk_cell KE.out 1).trans rfl;have ke2:w2.cell? ⟨ge,2,none⟩=some (.int .i64 dir):=(blk_cell KE.out 2).trans rfl;have kd0:w2.cell? ⟨gd,0,none⟩=some (.int .i64 0):=(blk_cell KD.out 0).trans rfl;have kd1:w2.cell? ⟨gd,1,none⟩=some (.bool false):=(blk_cell KD.out 1).trans rfl;have kd2:w2.cell? ⟨gd,2,none⟩=some (.slice none 0 0):=(blk_cell KD.out 2).trans rfl;have kd3:w2.cell? ⟨gd,3,none⟩=some (.slice none 0 0):=(blk_cell KD.out 3).trans rfl;have zd0:=blk_frozen KD.out 0;have zd1:=blk_frozen KD.out 1;have zd2:=blk_frozen KD.out 2;have zd3:=blk_frozen KD.out 3)|(go_at_call 60;refine (copy_is (Kd.C_below HR1.out BB.out) hc1 (Kd.C_below HR2.out BB.out) hc2 hs hd).mono ?_;rintro e w3 ⟨v1,v2,rfl,hR1,hR2,hb⟩;have H1:=Aside0.mk (Kd.R_lower hR1 BB.out.size);have H2:=Aside0.mk (Kd.R_lower hR2 BB.out.size);clear hR1 hR2;obtain ⟨gr,cr,e1,_,_,_⟩:=Kd.R_form H1.out hpos;obtain ⟨Ad,cd,e2⟩:=Kd.R_slice H2.out;subst e1 e2;have KL:=Aside0.mk (blk_below KL.out hb);have KZ:=Aside0.mk (blk_below KZ.out hb);have KE:=Aside0.mk (blk_below KE.out hb);have KD:=Aside0.mk (blk_below KD.out hb);have BB:=Aside0.mk (below_step BB.out hb);clear hb;have kl0:w3.cell? ⟨gl,0,none⟩=some (.int .i64 n):=(blk_cell KL.out 0).trans rfl;have kl1:w3.cell? ⟨gl,1,none⟩=some (.slice A l.length c):=(blk_cell KL.out 1).trans rfl;have kz0:w3.cell? ⟨gz,0,none⟩=some (.bool true):=(blk_cell KZ.out 0).trans rfl;have kz1:w3.cell? ⟨gz,1,none⟩=some (.slice A1 ss.length c1):=(blk_cell KZ.out 1).trans rfl;have kz2:w3.cell? ⟨gz,2,none⟩=some (.slice A2 dd.length c2):=(blk_cell KZ.out 2).trans rfl;have ke0:w3.cell? ⟨ge,0,none⟩=some (.int .i64 op):=(blk_cell KE.out 0).trans rfl;have ke1:w3.cell? ⟨ge,1,none⟩=some (.int .i64 of):=(blk_cell KE.out 1).trans rfl;have ke2:w3.cell? ⟨ge,2,none⟩=some (.int .i64 dir):=(blk_cell KE.out 2).trans rfl;have kd0:w3.cell? ⟨gd,0,none⟩=some (.int .i64 0):=(blk_cell KD.out 0).trans rfl;have kd1:w3.cell? ⟨gd,1,none⟩=some (.bool false):=(blk_cell KD.out 1).trans rfl;have kd2:w3.cell? ⟨gd,2,none⟩=some (.slice none 0 0):=(blk_cell KD.out 2).trans rfl;have kd3:w3.cell? ⟨gd,3,none⟩=some (.slice none 0 0):=(blk_cell KD.out 3).trans rfl;have zd0:=blk_frozen KD.out 0;have zd1:=blk_frozen KD.out 1;have zd2:=blk_frozen KD.out 2;have zd3:=blk_frozen KD.out 3)|((with_reducible refine gate_dst (N:=7) rfl ?_);refine box_event ?hg (N:=7) ?hd (cs:=#[.bool false,.slice none 0 0,.slice none 0 0]) (t:=83) ?hr ?_;(case hd=>rfl);(case hg=>rfl);(case hr=>first|(go_simp;done)|(go_simp;rfl));intro go eo wo ko bo;have KO:=Aside0.mk ko;have EO:=Aside0.mk eo;have BO:=Aside0.mk bo;have zo0:=blk_frozen ko 0;have zo1:=blk_frozen ko 1;have zo2:=blk_frozen ko 2;have ko0:=(blk_cell ko 0).trans (show _=some (Value.bool false) from rfl);have ko1:=(blk_cell ko 1).trans (show _=some (Value.slice none 0 0) from rfl);have ko2:=(blk_cell ko 2).trans (show _=some (Value.slice none 0 0) from rfl);have ke0:=pw_cell_below bo ke0;clear bo eo ko))
 have KX:=Aside0.mk (blk_put (blk_put (blk_put KO.out 0 (.bool true) rfl) 1 (.slice (some ⟨gr,0,none⟩) ss.length cr) rfl) 2 (.slice Ad dd.length cd) rfl)
 have BX:=Aside0.mk (below_set (j:=2) (v:=(.slice Ad dd.length cd)) (below_set (j:=1) (v:=(.slice (some ⟨gr,0,none⟩) ss.length cr)) (below_set (j:=0) (v:=.bool true) BO.out (Nat.le_of_eq EO.out.symm)) (Nat.le_of_eq EO.out.symm)) (Nat.le_of_eq EO.out.symm))
 have GO:=Aside0.mk (show w.heap.size≤go by rw [EO.out];exact BB.out.size)
 clear kl0 kl1 kz0 kz1 kz2 ke0 ke1 ke2 kd0 kd1 kd2 kd3 zd0 zd1 zd2 zd3 zo0 zo1 zo2 ko0 ko1 ko2
 have SA:=Aside0.mk (show SpSt w (((wo.setCell ⟨go,0,none⟩ (.bool true)).setCell ⟨go,1,none⟩ (.slice (some ⟨gr,0,none⟩) ss.length cr)).setCell ⟨go,2,none⟩ (.slice Ad dd.length cd)) gl gz go ge gd [.int .i64 n,.slice A l.length c] [.bool true,.slice A1 ss.length c1,.slice A2 dd.length c2] [.bool true,.slice (some ⟨gr,0,none⟩) ss.length cr,.slice Ad dd.length cd] [.int .i64 op,.int .i64 of,.int .i64 dir] [.int .i64 0,.bool false,.slice none 0 0,.slice none 0 0] (.slice (some ⟨gr,0,none⟩) ss.length cr) (.slice Ad dd.length cd) ss dd from ⟨⟨blk_below KL.out BX.out,KX.out,blk_below KE.out BX.out,blk_below KD.out BX.out,R_up H1.out BX.out,R_up H2.out BX.out,below_step BB.out BX.out,GL.out,GO.out,GE.out,GD.out⟩,blk_below KZ.out BX.out⟩)
 clear KL KZ KE KD BB H1 H2 KO BO EO KX BX
 generalize (((wo.setCell ⟨go,0,none⟩ (.bool true)).setCell ⟨go,1,none⟩ (.slice (some ⟨gr,0,none⟩) ss.length cr)).setCell ⟨go,2,none⟩ (.slice Ad dd.length cd))=wa at SA ⊢
 have kge0:wa.cell? ⟨ge,0,none⟩=some (.int .i64 op):=(blk_cell SA.out.D.he 0).trans rfl
 go_upto_block 0 with fail
 clear kge0
 go_cut [8] from 9 to 126 (fun v8 wx=>v8=.int .i64 (doCode l ss dd op of)∧Aside0 (SpSt w wx gl gz go ge gd [.int .i64 n,.slice A l.length c] [.bool true,.slice A1 ss.length c1,.slice A2 dd.length c2] [.bool true,.slice (some ⟨gr,0,none⟩) ss.length cr,.slice Ad dd.length cd] [.int .i64 op,.int .i64 of,.int .i64 dir] [.int .i64 0,.bool false,.slice none 0 0,.slice none 0 0] (.slice (some ⟨gr,0,none⟩) ss.length cr) (.slice Ad dd.length cd) (midSecs2 l ss dd op of dir) (doDead l ss dd op of)))
 case first =>
  obtain ⟨hl,hns,hnd,hln⟩:=HN.out
  have HL2:=Aside0.mk hln
  rcases evOk_cases HEV.out with ⟨hop,ho0,ho1,hdir⟩|⟨hop,ho0,ho1⟩|⟨rfl,ho0,ho1⟩
  ·skip
   have lr:=lay_rd hl of ho0 ho1
   have ho2:=ho1
   rw [← hnd] at ho1
   obtain ⟨gb,cb,e,_,_,_⟩:=Kd.R_form SA.out.D.H2 (show 0<dd.length by omega)
   cases e
   obtain ⟨x0,xf⟩:=bool_at SA.out.D.H2 of ho0 ho1
   obtain ⟨ad,e,y0,y1⟩:=at_T98 HR.out of ho0 ho2
   subst e
   obtain ⟨a2,e,-⟩:=HR2.out.2.2 (show 0<dd.length by omega)
   subst e
   have u0:=Kd.foot_bool HR2.out of ho0 ho1
   have U0:=Aside0.mk u0
   have LR0:=Aside0.mk (show (rd_T98 l of).f0<(ss.length:Int) by omega)
   have LR1:=Aside0.mk (show (rd_T98 l of).f1<(ss.length:Int) by omega)
   clear lr hl hns hnd hln u0
   have Y0:=Aside0.mk y0
   have Y1:=Aside0.mk y1
   clear y0 y1
   rcases hop with rfl|rfl
   ·skip
    have kge0:wa.cell? ⟨ge,0,none⟩=some (.int .i64 1):=(blk_cell SA.out.D.he 0).trans rfl
    have kge1:wa.cell? ⟨ge,1,none⟩=some (.int .i64 of):=(blk_cell SA.out.D.he 1).trans rfl
    have kge2:wa.cell? ⟨ge,2,none⟩=some (.int .i64 dir):=(blk_cell SA.out.D.he 2).trans rfl
    have kgo0:wa.cell? ⟨go,0,none⟩=some (.bool true):=(blk_cell SA.out.D.hs 0).trans rfl
    have kgo1:wa.cell? ⟨go,1,none⟩=some (.slice (some ⟨gr,0,none⟩) ss.length cr):=(blk_cell SA.out.D.hs 1).trans rfl
    have kgo2:wa.cell? ⟨go,2,none⟩=some (.slice (some ⟨gb,0,none⟩) dd.length cd):=(blk_cell SA.out.D.hs 2).trans rfl
    have kgz0:wa.cell? ⟨gz,0,none⟩=some (.bool true):=(blk_cell SA.out.hz 0).trans rfl
    have kgz1:wa.cell? ⟨gz,1,none⟩=some (.slice A1 ss.length c1):=(blk_cell SA.out.hz 1).trans rfl
    have kgz2:wa.cell? ⟨gz,2,none⟩=some (.slice (some a2) dd.length c2):=(blk_cell SA.out.hz 2).trans rfl
    have kgl0:wa.cell? ⟨gl,0,none⟩=some (.int .i64 n):=(blk_cell SA.out.D.hl 0).trans rfl
    have kgl1:wa.cell? ⟨gl,1,none⟩=some (.slice (some ad) l.length c):=(blk_cell SA.out.D.hl 1).trans rfl
    have y0:=pw_cell_below SA.out.D.hB Y0.out
    have y1:=pw_cell_below SA.out.D.hB Y1.out
    go_upto_region 9 with (first|((with_reducible refine gate_dst (N:=9) rfl ?_);refine box_event ?hg (N:=9) ?hd (cs:=#[.int .i64 0,.int .i64 0]) (t:=98) ?hr ?_;(case hd=>rfl);(case hg=>rfl);(case hr=>first|(go_simp;done)|(go_simp;rfl));intro gc ec wb kc bc;have KC:=Aside0.mk kc;have EC:=Aside0.mk ec;have BC:=Aside0.mk bc;have zc0:=blk_frozen kc 0;have zc1:=blk_frozen kc 1;have kc0:=(blk_cell kc 0).trans (show _=some (Value.int .i64 0) from rfl);have kc1:=(blk_cell kc 1).trans (show _=some (Value.int .i64 0) from rfl);clear kc ec bc))
    have KX:=Aside0.mk (blk_put (blk_put KC.out 0 (.int .i64 (rd_T98 l of).f0) rfl) 1 (.int .i64 (rd_T98 l of).f1) rfl)
    have BX:=Aside0.mk (below_set (j:=1) (v:=(.int .i64 (rd_T98 l of).f1)) (below_set (j:=0) (v:=(.int .i64 (rd_T98 l of).f0)) BC.out (Nat.le_of_eq EC.out.symm)) (Nat.le_of_eq EC.out.symm))
    have S1:=Aside0.mk (SA.out.up BX.out)
    clear kge0 kge1 kge2 kgo0 kgo1 kgo2 kgz0 kgz1 kgz2 kgl0 kgl1
    clear SA y0 y1 KC BC EC zc0 zc1 kc0 kc1 BX x0 xf
    generalize (wb.setCell ⟨gc,0,none⟩ (.int .i64 (rd_T98 l of).f0)).setCell ⟨gc,1,none⟩ (.int .i64 (rd_T98 l of).f1)=w1 at S1 KX ⊢
    have kge0:w1.cell? ⟨ge,0,none⟩=some (.int .i64 1):=(blk_cell S1.out.D.he 0).trans rfl
    have kge1:w1.cell? ⟨ge,1,none⟩=some (.int .i64 of):=(blk_cell S1.out.D.he 1).trans rfl
    have kge2:w1.cell? ⟨ge,2,none⟩=some (.int .i64 dir):=(blk_cell S1.out.D.he 2).trans rfl
    have kgo0:w1.cell? ⟨go,0,none⟩=some (.bool true):=(blk_cell S1.out.D.hs 0).trans rfl
    have kgo1:w1.cell? ⟨go,1,none⟩=some (.slice (some ⟨gr,0,none⟩) ss.length cr):=(blk_cell S1.out.D.hs 1).trans rfl
    have kgo2:w1.cell? ⟨go,2,none⟩=some (.slice (some ⟨gb,0,none⟩) dd.length cd):=(blk_cell S1.out.D.hs 2).trans rfl
    have kgz0:w1.cell? ⟨gz,0,none⟩=some (.bool true):=(blk_cell S1.out.hz 0).trans rfl
    have kgz1:w1.cell? ⟨gz,1,none⟩=some (.slice A1 ss.length c1):=(blk_cell S1.out.hz 1).trans rfl
    have kgz2:w1.cell? ⟨gz,2,none⟩=some (.slice (some a2) dd.length c2):=(blk_cell S1.out.hz 2).trans rfl
    have kgl0:w1.cell? ⟨gl,0,none⟩=some (.int .i64 n):=(blk_cell S1.out.D.hl 0).trans rfl
    have kgl1:w1.cell? ⟨gl,1,none⟩=some (.slice (some ad) l.length c):=(blk_cell S1.out.D.hl 1).trans rfl
    have kc0:w1.cell? ⟨gc,0,none⟩=some (.int .i64 (rd_T98 l of).f0):=(blk_cell KX.out 0).trans rfl
    have kc1:w1.cell? ⟨gc,1,none⟩=some (.int .i64 (rd_T98 l of).f1):=(blk_cell KX.out 1).trans rfl
    have u0:=pw_cell_below S1.out.D.hB U0.out
    rcases Bool.eq_false_or_eq_true (rdOf false dd of) with hdo|hdo
    ·rw [hdo] at u0
     have HC:=Aside0.mk (show doCode l ss dd 1 of=2 by unfold doCode;rw [if_pos (by decide),if_pos hdo])
     clear hdo
     go_wp2_with fail
     go_meet
     case rel=>exact ⟨by rw [HC.out],⟨by unfold midSecs2 doDead;rw [HC.out];exact S1.out⟩⟩
    rw [hdo] at u0
    have HC:=Aside0.mk (show doCode l ss dd 1 of=0 by unfold doCode;rw [if_pos (by decide),hdo];rfl)
    clear hdo
    rcases hdir with rfl|rfl
    ·skip
     go_upto_region 18 with (go_at_call 70;refine (out_any _ true go gr ss.length cr _ _ _ _ _ LR0.out S1.out.D.hs S1.out.D.H1).mono ?_;rintro e w2 ⟨rfl,hR,hg⟩;have S2:=Aside0.mk (S1.out.sec hR hg);clear hR hg)
     go_wp2_with (go_at_call 70;refine (in_any _ true go gr ss.length cr _ _ _ _ _ LR1.out S2.out.D.hs S2.out.D.H1).mono ?_;rintro e w3 ⟨rfl,hR,hg⟩;have S3:=Aside0.mk (S2.out.sec hR hg);clear hR hg)
     go_meet
     case rel=>exact ⟨by rw [HC.out],⟨by unfold midSecs2 doDead;rw [if_pos HC.out,if_pos HC.out];exact S3.out⟩⟩
    skip
    go_upto_region 18 with (go_at_call 70;refine (out_any _ true go gr ss.length cr _ _ _ _ _ LR1.out S1.out.D.hs S1.out.D.H1).mono ?_;rintro e w2 ⟨rfl,hR,hg⟩;have S2:=Aside0.mk (S1.out.sec hR hg);clear hR hg)
    go_wp2_with (go_at_call 70;refine (in_any _ true go gr ss.length cr _ _ _ _ _ LR0.out S2.out.D.hs S2.out.D.H1).mono ?_;rintro e w3 ⟨rfl,hR,hg⟩;have S3:=Aside0.mk (S2.out.sec hR hg);clear hR hg)
    go_meet
    case rel=>exact ⟨by rw [HC.out],⟨by unfold midSecs2 doDead;rw [if_pos HC.out,if_pos HC.out];exact S3.out⟩⟩
   skip
   have kge0:wa.cell? ⟨ge,0,none⟩=some (.int .i64 2):=(blk_cell SA.out.D.he 0).trans rfl
   have kge1:wa.cell? ⟨ge,1,none⟩=some (.int .i64 of):=(blk_cell SA.out.D.he 1).trans rfl
   have kge2:wa.cell? ⟨ge,2,none⟩=some (.int .i64 dir):=(blk_cell SA.out.D.he 2).trans rfl
   have kgo0:wa.cell? ⟨go,0,none⟩=some (.bool true):=(blk_cell SA.out.D.hs 0).trans rfl
   have kgo1:wa.cell? ⟨go,1,none⟩=some (.slice (some ⟨gr,0,none⟩) ss.length cr):=(blk_cell SA.out.D.hs 1).trans rfl
   have kgo2:wa.cell? ⟨go,2,none⟩=some (.slice (some ⟨gb,0,none⟩) dd.length cd):=(blk_cell SA.out.D.hs 2).trans rfl
   have kgz0:wa.cell? ⟨gz,0,none⟩=some (.bool true):=(blk_cell SA.out.hz 0).trans rfl
   have kgz1:wa.cell? ⟨gz,1,none⟩=some (.slice A1 ss.length c1):=(blk_cell SA.out.hz 1).trans rfl
   have kgz2:wa.cell? ⟨gz,2,none⟩=some (.slice (some a2) dd.length c2):=(blk_cell SA.out.hz 2).trans rfl
   have kgl0:wa.cell? ⟨gl,0,none⟩=some (.int .i64 n):=(blk_cell SA.out.D.hl 0).trans rfl
   have kgl1:wa.cell? ⟨gl,1,none⟩=some (.slice (some ad) l.length c):=(blk_cell SA.out.D.hl 1).trans rfl
   have y0:=pw_cell_below SA.out.D.hB Y0.out
   have y1:=pw_cell_below SA.out.D.hB Y1.out
   go_upto_region 9 with (first|((with_reducible refine gate_dst (N:=9) rfl ?_);refine box_event ?hg (N:=9) ?hd (cs:=#[.int .i64 0,.int .i64 0]) (t:=98) ?hr ?_;(case hd=>rfl);(case hg=>rfl);(case hr=>first|(go_simp;done)|(go_simp;rfl));intro gc ec wb kc bc;have KC:=Aside0.mk kc;have EC:=Aside0.mk ec;have BC:=Aside0.mk bc;have zc0:=blk_frozen kc 0;have zc1:=blk_frozen kc 1;have kc0:=(blk_cell kc 0).trans (show _=some (Value.int .i64 0) from rfl);have kc1:=(blk_cell kc 1).trans (show _=some (Value.int .i64 0) from rfl);clear kc ec bc))
   have KX:=Aside0.mk (blk_put (blk_put KC.out 0 (.int .i64 (rd_T98 l of).f0) rfl) 1 (.int .i64 (rd_T98 l of).f1) rfl)
   have BX:=Aside0.mk (below_set (j:=1) (v:=(.int .i64 (rd_T98 l of).f1)) (below_set (j:=0) (v:=(.int .i64 (rd_T98 l of).f0)) BC.out (Nat.le_of_eq EC.out.symm)) (Nat.le_of_eq EC.out.symm))
   have S1:=Aside0.mk (SA.out.up BX.out)
   clear kge0 kge1 kge2 kgo0 kgo1 kgo2 kgz0 kgz1 kgz2 kgl0 kgl1
   clear SA y0 y1 KC BC EC zc0 zc1 kc0 kc1 BX x0 xf
   generalize (wb.setCell ⟨gc,0,none⟩ (.int .i64 (rd_T98 l of).f0)).setCell ⟨gc,1,none⟩ (.int .i64 (rd_T98 l of).f1)=w1 at S1 KX ⊢
   have kge0:w1.cell? ⟨ge,0,none⟩=some (.int .i64 2):=(blk_cell S1.out.D.he 0).trans rfl
   have kge1:w1.cell? ⟨ge,1,none⟩=some (.int .i64 of):=(blk_cell S1.out.D.he 1).trans rfl
   have kge2:w1.cell? ⟨ge,2,none⟩=some (.int .i64 dir):=(blk_cell S1.out.D.he 2).trans rfl
   have kgo0:w1.cell? ⟨go,0,none⟩=some (.bool true):=(blk_cell S1.out.D.hs 0).trans rfl
   have kgo1:w1.cell? ⟨go,1,none⟩=some (.slice (some ⟨gr,0,none⟩) ss.length cr):=(blk_cell S1.out.D.hs 1).trans rfl
   have kgo2:w1.cell? ⟨go,2,none⟩=some (.slice (some ⟨gb,0,none⟩) dd.length cd):=(blk_cell S1.out.D.hs 2).trans rfl
   have kgz0:w1.cell? ⟨gz,0,none⟩=some (.bool true):=(blk_cell S1.out.hz 0).trans rfl
   have kgz1:w1.cell? ⟨gz,1,none⟩=some (.slice A1 ss.length c1):=(blk_cell S1.out.hz 1).trans rfl
   have kgz2:w1.cell? ⟨gz,2,none⟩=some (.slice (some a2) dd.length c2):=(blk_cell S1.out.hz 2).trans rfl
   have kgl0:w1.cell? ⟨gl,0,none⟩=some (.int .i64 n):=(blk_cell S1.out.D.hl 0).trans rfl
   have kgl1:w1.cell? ⟨gl,1,none⟩=some (.slice (some ad) l.length c):=(blk_cell S1.out.D.hl 1).trans rfl
   have kc0:w1.cell? ⟨gc,0,none⟩=some (.int .i64 (rd_T98 l of).f0):=(blk_cell KX.out 0).trans rfl
   have kc1:w1.cell? ⟨gc,1,none⟩=some (.int .i64 (rd_T98 l of).f1):=(blk_cell KX.out 1).trans rfl
   have u0:=pw_cell_below S1.out.D.hB U0.out
   rcases Bool.eq_false_or_eq_true (rdOf false dd of) with hdo|hdo
   ·rw [hdo] at u0
    have HC:=Aside0.mk (show doCode l ss dd 2 of=2 by unfold doCode;rw [if_pos (by decide),if_pos hdo])
    clear hdo
    go_wp2_with fail
    go_meet
    case rel=>exact ⟨by rw [HC.out],⟨by unfold midSecs2 doDead;rw [HC.out];exact S1.out⟩⟩
   rw [hdo] at u0
   have HC:=Aside0.mk (show doCode l ss dd 2 of=0 by unfold doCode;rw [if_pos (by decide),hdo];rfl)
   clear hdo
   rcases hdir with rfl|rfl
   ·skip
    go_wp2_with (go_at_call 70;refine (in_any _ true go gr ss.length cr _ _ _ _ _ LR1.out S1.out.D.hs S1.out.D.H1).mono ?_;rintro e w3 ⟨rfl,hR,hg⟩;have S3:=Aside0.mk (S1.out.sec hR hg);clear hR hg)
    go_meet
    case rel=>exact ⟨by rw [HC.out],⟨by unfold midSecs2 doDead;rw [if_pos HC.out,if_pos HC.out];exact S3.out⟩⟩
   skip
   go_wp2_with (go_at_call 70;refine (in_any _ true go gr ss.length cr _ _ _ _ _ LR0.out S1.out.D.hs S1.out.D.H1).mono ?_;rintro e w3 ⟨rfl,hR,hg⟩;have S3:=Aside0.mk (S1.out.sec hR hg);clear hR hg)
   go_meet
   case rel=>exact ⟨by rw [HC.out],⟨by unfold midSecs2 doDead;rw [if_pos HC.out,if_pos HC.out];exact S3.out⟩⟩
  ·skip
   have lr:=lay_rd hl of ho0 ho1
   have ho2:=ho1
   rw [← hnd] at ho1
   obtain ⟨gb,cb,e,_,_,_⟩:=Kd.R_form SA.out.D.H2 (show 0<dd.length by omega)
   cases e
   obtain ⟨x0,xf⟩:=bool_at SA.out.D.H2 of ho0 ho1
   obtain ⟨ad,e,y0,y1⟩:=at_T98 HR.out of ho0 ho2
   subst e
   obtain ⟨a2,e,-⟩:=HR2.out.2.2 (show 0<dd.length by omega)
   subst e
   have u0:=Kd.foot_bool HR2.out of ho0 ho1
   have U0:=Aside0.mk u0
   have LR0:=Aside0.mk (show (rd_T98 l of).f0<(ss.length:Int) by omega)
   have LR1:=Aside0.mk (show (rd_T98 l of).f1<(ss.length:Int) by omega)
   clear lr hl hns hnd hln u0
   have Y0:=Aside0.mk y0
   have Y1:=Aside0.mk y1
   clear y0 y1
   have HC:=Aside0.mk (show doCode l ss dd op of=0 by unfold doCode;rw [if_neg (by omega),if_neg (by omega)])
   have HM:=Aside0.mk (show midSecs2 l ss dd op of dir=midSecs l ss op of dir by unfold midSecs2;rw [if_pos HC.out])
   have HD:=Aside0.mk (show doDead l ss dd op of=midDead dd op of by unfold doDead;rw [if_pos HC.out])
   rcases hop with rfl|rfl
   ·skip
    have kge0:wa.cell? ⟨ge,0,none⟩=some (.int .i64 3):=(blk_cell SA.out.D.he 0).trans rfl
    have kge1:wa.cell? ⟨ge,1,none⟩=some (.int .i64 of):=(blk_cell SA.out.D.he 1).trans rfl
    have kge2:wa.cell? ⟨ge,2,none⟩=some (.int .i64 dir):=(blk_cell SA.out.D.he 2).trans rfl
    have kgo0:wa.cell? ⟨go,0,none⟩=some (.bool true):=(blk_cell SA.out.D.hs 0).trans rfl
    have kgo1:wa.cell? ⟨go,1,none⟩=some (.slice (some ⟨gr,0,none⟩) ss.length cr):=(blk_cell SA.out.D.hs 1).trans rfl
    have kgo2:wa.cell? ⟨go,2,none⟩=some (.slice (some ⟨gb,0,none⟩) dd.length cd):=(blk_cell SA.out.D.hs 2).trans rfl
    have kgz0:wa.cell? ⟨gz,0,none⟩=some (.bool true):=(blk_cell SA.out.hz 0).trans rfl
    have kgz1:wa.cell? ⟨gz,1,none⟩=some (.slice A1 ss.length c1):=(blk_cell SA.out.hz 1).trans rfl
    have kgz2:wa.cell? ⟨gz,2,none⟩=some (.slice (some a2) dd.length c2):=(blk_cell SA.out.hz 2).trans rfl
    have kgl0:wa.cell? ⟨gl,0,none⟩=some (.int .i64 n):=(blk_cell SA.out.D.hl 0).trans rfl
    have kgl1:wa.cell? ⟨gl,1,none⟩=some (.slice (some ad) l.length c):=(blk_cell SA.out.D.hl 1).trans rfl
    go_upto_region 21 with fail
    have S1:=Aside0.mk (SA.out.dead of true)
    clear kge0 kge1 kge2 kgo0 kgo1 kgo2 kgz0 kgz1 kgz2 kgl0 kgl1
    clear SA x0 xf
    generalize wa.setCell ⟨gb,of.toNat,none⟩ (.bool true)=w1 at S1 ⊢
    have kge1:w1.cell? ⟨ge,1,none⟩=some (.int .i64 of):=(blk_cell S1.out.D.he 1).trans rfl
    have kgl1:w1.cell? ⟨gl,1,none⟩=some (.slice (some ad) l.length c):=(blk_cell S1.out.D.hl 1).trans rfl
    have y0:=pw_cell_below S1.out.D.hB Y0.out
    have y1:=pw_cell_below S1.out.D.hB Y1.out
    go_region_held3 (fun w'=>w'.cell? ⟨gl,1,none⟩=some (.slice (some ad) l.length c)∧w'.cell? ⟨ge,1,none⟩=some (.int .i64 of)∧w'.cell? (ad.add (of.toNat * 2))=some (.int .i64 (rd_T98 l of).f0)∧w'.cell? ⟨(ad.add (of.toNat * 2)).block,(ad.add (of.toNat * 2)).off+1,none⟩=some (.int .i64 (rd_T98 l of).f1))
     (first|go_keep|(go_split_ands;(repeat' apply And.intro) <;> (refine pw_cell_below (below_alloc (Below.refl _ _) _) ?_;assumption)))
     (fail)
    have S2:=Aside0.mk (S1.out.up (below_drew1 (below_alloc (Below.refl w1.heap.size w1) (.cells #[.int .i64 (rd_T98 l of).f0,.int .i64 (rd_T98 l of).f1] 3))))
    have KS:Aside0 (((w1.alloc (.cells #[.int .i64 (rd_T98 l of).f0,.int .i64 (rd_T98 l of).f1] 3)).drew).heap[w1.heap.size]?=some (.cells #[.int .i64 (rd_T98 l of).f0,.int .i64 (rd_T98 l of).f1] 3 (0,0))):=⟨blk_drew (heap_alloc_new w1 _)⟩
    clear S1 kge1 kgl1 y0 y1
    generalize (w1.alloc (.cells #[.int .i64 (rd_T98 l of).f0,.int .i64 (rd_T98 l of).f1] 3)).drew=w2 at S2 KS ⊢
    generalize w1.heap.size=gq at KS ⊢
    go_wp2_with fail
    go_loopg [86] 2 (fun kq v w'=>∃ i:Int,v=.int .i64 i∧Aside0 ((i=0∧kq=2) ∨ (i=1∧kq=1) ∨ (i=2∧kq=0))∧Aside0 (w'.heap[gq]?=some (.cells #[.int .i64 (rd_T98 l of).f0,.int .i64 (rd_T98 l of).f1] 3 (0,0)))∧Aside0 (SpSt w w' gl gz go ge gd [.int .i64 n,.slice (some ad) l.length c] [.bool true,.slice A1 ss.length c1,.slice (some a2) dd.length c2] [.bool true,.slice (some ⟨gr,0,none⟩) ss.length cr,.slice (some ⟨gb,0,none⟩) dd.length cd] [.int .i64 3,.int .i64 of,.int .i64 dir] [.int .i64 0,.bool false,.slice none 0 0,.slice none 0 0] (.slice (some ⟨gr,0,none⟩) ss.length cr) (.slice (some ⟨gb,0,none⟩) dd.length cd) (loseTo ss (rd_T98 l of).f0 (rd_T98 l of).f1 i.toNat) (dd.set of.toNat true)))
    case atStart=>exact ⟨0,rfl,⟨.inl ⟨rfl,rfl⟩⟩,KS,S2⟩
    case round =>
     clear S2 KS
     obtain ⟨i,rfl,HI,KS,SL⟩:=hrel
     rcases HI.out with ⟨rfl,rfl⟩|⟨rfl,rfl⟩|⟨rfl,rfl⟩
     ·have kk:wr.cell? ⟨gq,0,none⟩=some (.int .i64 (rd_T98 l of).f0):=(blk_cell KS.out 0).trans rfl
      have kgo1:wr.cell? ⟨go,1,none⟩=some (.slice (some ⟨gr,0,none⟩) ss.length cr):=(blk_cell SL.out.D.hs 1).trans rfl
      by_cases h0:(rd_T98 l of).f0<0
      ·have h0b:decide ((rd_T98 l of).f0 ≥ 0)=false:=decide_eq_false (by omega)
       have H0:=Aside0.mk h0
       clear h0
       go_wp2_with fail
       go_roundg 1
       case measure=>omega
       case rel=>exact ⟨1,rfl,⟨.inr (.inl ⟨rfl,rfl⟩)⟩,KS,⟨by rw [show (1:Int).toNat=1 from rfl,show loseTo ss _ _ 1=loseTo ss _ _ 0 from if_pos H0.out];exact SL.out⟩⟩
      have h0b:decide ((rd_T98 l of).f0 ≥ 0)=true:=decide_eq_true (by omega)
      have h1:0≤(rd_T98 l of).f0:=by omega
      have h2:=LR0.out
      have H0:=Aside0.mk h0
      have H1:=Aside0.mk h1
      clear h0
      obtain ⟨z0,z1,z2,z3,z4,zf0,zf1,zf2,zf3,zf4⟩:=sec_at SL.out.D.H1 (rd_T98 l of).f0 h1 h2
      have hp1:=eq_true h1
      have hp2:=eq_true h2
      clear h1 h2 z0 z1 z3 z4 zf0 zf1 zf3 zf4
      go_wp2_with fail
      obtain ⟨hR,hg⟩:=(SecSt.start SL.out.D.H1 H1.out LR0.out).put2 H1.out LR0.out (u:=true) rfl
      have S3:=Aside0.mk (SL.out.sec hR hg)
      have K3:=Aside0.mk (blk_grown KS.out hg (Kd.R_ne SL.out.D.H1 KS.out (by decide)))
      clear hR hg
      go_roundg 1
      case measure=>omega
      case rel=>exact ⟨1,rfl,⟨.inr (.inl ⟨rfl,rfl⟩)⟩,K3,⟨by rw [show (1:Int).toNat=1 from rfl,show loseTo ss (rd_T98 l of).f0 (rd_T98 l of).f1 1=_ from if_neg (show ¬ (rd_T98 l of).f0<0 by have:=H1.out;omega)];exact S3.out⟩⟩
     ·have kk:wr.cell? ⟨gq,1,none⟩=some (.int .i64 (rd_T98 l of).f1):=(blk_cell KS.out 1).trans rfl
      have kgo1:wr.cell? ⟨go,1,none⟩=some (.slice (some ⟨gr,0,none⟩) ss.length cr):=(blk_cell SL.out.D.hs 1).trans rfl
      by_cases h0:(rd_T98 l of).f1<0
      ·have h0b:decide ((rd_T98 l of).f1 ≥ 0)=false:=decide_eq_false (by omega)
       have H0:=Aside0.mk h0
       clear h0
       go_wp2_with fail
       go_roundg 0
       case measure=>omega
       case rel=>exact ⟨2,rfl,⟨.inr (.inr ⟨rfl,rfl⟩)⟩,KS,⟨by rw [show (2:Int).toNat=2 from rfl,show loseTo ss (rd_T98 l of).f0 (rd_T98 l of).f1 2=loseTo ss (rd_T98 l of).f0 (rd_T98 l of).f1 1 from if_pos H0.out];exact SL.out⟩⟩
      have h0b:decide ((rd_T98 l of).f1 ≥ 0)=true:=decide_eq_true (by omega)
      have h1:0≤(rd_T98 l of).f1:=by omega
      have h2:=LR1.out
      have H0:=Aside0.mk h0
      have H1:=Aside0.mk h1
      clear h0
      obtain ⟨z0,z1,z2,z3,z4,zf0,zf1,zf2,zf3,zf4⟩:=sec_at SL.out.D.H1 (rd_T98 l of).f1 h1 h2
      have hp1:=eq_true h1
      have hp2:=eq_true h2
      clear h1 h2 z0 z1 z3 z4 zf0 zf1 zf3 zf4
      go_wp2_with fail
      obtain ⟨hR,hg⟩:=(SecSt.start SL.out.D.H1 H1.out LR1.out).put2 H1.out LR1.out (u:=true) rfl
      have S3:=Aside0.mk (SL.out.sec hR hg)
      have K3:=Aside0.mk (blk_grown KS.out hg (Kd.R_ne SL.out.D.H1 KS.out (by decide)))
      clear hR hg
      go_roundg 0
      case measure=>omega
      case rel=>exact ⟨2,rfl,⟨.inr (.inr ⟨rfl,rfl⟩)⟩,K3,⟨by rw [show (2:Int).toNat=2 from rfl,show loseTo ss (rd_T98 l of).f0 (rd_T98 l of).f1 2=_ from if_neg (show ¬ (rd_T98 l of).f1<0 by have:=H1.out;omega)];exact S3.out⟩⟩
     go_wp2_with fail
     go_meet
     case rel=>exact ⟨by rw [HC.out],⟨by rw [HM.out,HD.out];exact SL.out⟩⟩
   skip
   have kge0:wa.cell? ⟨ge,0,none⟩=some (.int .i64 4):=(blk_cell SA.out.D.he 0).trans rfl
   have kge1:wa.cell? ⟨ge,1,none⟩=some (.int .i64 of):=(blk_cell SA.out.D.he 1).trans rfl
   have kge2:wa.cell? ⟨ge,2,none⟩=some (.int .i64 dir):=(blk_cell SA.out.D.he 2).trans rfl
   have kgo0:wa.cell? ⟨go,0,none⟩=some (.bool true):=(blk_cell SA.out.D.hs 0).trans rfl
   have kgo1:wa.cell? ⟨go,1,none⟩=some (.slice (some ⟨gr,0,none⟩) ss.length cr):=(blk_cell SA.out.D.hs 1).trans rfl
   have kgo2:wa.cell? ⟨go,2,none⟩=some (.slice (some ⟨gb,0,none⟩) dd.length cd):=(blk_cell SA.out.D.hs 2).trans rfl
   have kgz0:wa.cell? ⟨gz,0,none⟩=some (.bool true):=(blk_cell SA.out.hz 0).trans rfl
   have kgz1:wa.cell? ⟨gz,1,none⟩=some (.slice A1 ss.length c1):=(blk_cell SA.out.hz 1).trans rfl
   have kgz2:wa.cell? ⟨gz,2,none⟩=some (.slice (some a2) dd.length c2):=(blk_cell SA.out.hz 2).trans rfl
   have kgl0:wa.cell? ⟨gl,0,none⟩=some (.int .i64 n):=(blk_cell SA.out.D.hl 0).trans rfl
   have kgl1:wa.cell? ⟨gl,1,none⟩=some (.slice (some ad) l.length c):=(blk_cell SA.out.D.hl 1).trans rfl
   go_wp2_with fail
   go_meet
   case rel=>exact ⟨by rw [HC.out],⟨by rw [HM.out,HD.out];exact SA.out.dead of false⟩⟩
  rw [← hns] at ho1
  have HLL:=Aside0.mk (show l.length≤1048576 by omega)
  have HND:=Aside0.mk hnd
  have HO0:=Aside0.mk ho0
  have HO1:=Aside0.mk ho1
  have HLY:=Aside0.mk hl
  have HON:=Aside0.mk (show of<n by omega)
  obtain ⟨a1,e,y0,y1,y2,y3,y4⟩:=at_T87 HR1.out of ho0 ho1
  subst e
  have Y4:=Aside0.mk y4
  clear y0 y1 y2 y3 y4 hl hns hnd hln
  have kge0:wa.cell? ⟨ge,0,none⟩=some (.int .i64 5):=(blk_cell SA.out.D.he 0).trans rfl
  have kge1:wa.cell? ⟨ge,1,none⟩=some (.int .i64 of):=(blk_cell SA.out.D.he 1).trans rfl
  have kge2:wa.cell? ⟨ge,2,none⟩=some (.int .i64 dir):=(blk_cell SA.out.D.he 2).trans rfl
  have kgo0:wa.cell? ⟨go,0,none⟩=some (.bool true):=(blk_cell SA.out.D.hs 0).trans rfl
  have kgo1:wa.cell? ⟨go,1,none⟩=some (.slice (some ⟨gr,0,none⟩) ss.length cr):=(blk_cell SA.out.D.hs 1).trans rfl
  have kgo2:wa.cell? ⟨go,2,none⟩=some (.slice Ad dd.length cd):=(blk_cell SA.out.D.hs 2).trans rfl
  have kgz0:wa.cell? ⟨gz,0,none⟩=some (.bool true):=(blk_cell SA.out.hz 0).trans rfl
  have kgz1:wa.cell? ⟨gz,1,none⟩=some (.slice (some a1) ss.length c1):=(blk_cell SA.out.hz 1).trans rfl
  have kgz2:wa.cell? ⟨gz,2,none⟩=some (.slice A2 dd.length c2):=(blk_cell SA.out.hz 2).trans rfl
  have kgl0:wa.cell? ⟨gl,0,none⟩=some (.int .i64 n):=(blk_cell SA.out.D.hl 0).trans rfl
  have kgl1:wa.cell? ⟨gl,1,none⟩=some (.slice A l.length c):=(blk_cell SA.out.D.hl 1).trans rfl
  rcases Bool.eq_false_or_eq_true (deadAt l dd of) with hdo|hdo
  ·have HDO:=Aside0.mk hdo
   have HC:=Aside0.mk (show doCode l ss dd 5 of=3 by unfold doCode;rw [if_neg (by decide),if_pos rfl,if_pos hdo])
   clear hdo
   go_wp2_with (go_at_call 71;refine (sdead_at of HDO.out (Kd.C_below HR.out SA.out.D.hB) hc (Kd.C_below HR2.out SA.out.D.hB) hc2 HLY.out HO0.out HON.out HND.out).mono ?_;rintro e w1 ⟨rfl,hb⟩;have S1:=Aside0.mk (SA.out.up hb);clear hb)
   go_meet
   case rel=>exact ⟨by rw [HC.out],⟨by unfold midSecs2 doDead;rw [HC.out];exact S1.out⟩⟩
  have HDO:=Aside0.mk hdo
  clear hdo
  go_upto_region 32 with (go_at_call 71;refine (sdead_at of HDO.out (Kd.C_below HR.out SA.out.D.hB) hc (Kd.C_below HR2.out SA.out.D.hB) hc2 HLY.out HO0.out HON.out HND.out).mono ?_;rintro e w1 ⟨rfl,hb⟩;have S1:=Aside0.mk (SA.out.up hb);clear hb)
  clear kge0 kge1 kge2 kgo0 kgo1 kgo2 kgz0 kgz1 kgz2 kgl0 kgl1
  clear SA
  have kge0:w1.cell? ⟨ge,0,none⟩=some (.int .i64 5):=(blk_cell S1.out.D.he 0).trans rfl
  have kge1:w1.cell? ⟨ge,1,none⟩=some (.int .i64 of):=(blk_cell S1.out.D.he 1).trans rfl
  have kge2:w1.cell? ⟨ge,2,none⟩=some (.int .i64 dir):=(blk_cell S1.out.D.he 2).trans rfl
  have kgo0:w1.cell? ⟨go,0,none⟩=some (.bool true):=(blk_cell S1.out.D.hs 0).trans rfl
  have kgo1:w1.cell? ⟨go,1,none⟩=some (.slice (some ⟨gr,0,none⟩) ss.length cr):=(blk_cell S1.out.D.hs 1).trans rfl
  have kgo2:w1.cell? ⟨go,2,none⟩=some (.slice Ad dd.length cd):=(blk_cell S1.out.D.hs 2).trans rfl
  have kgz0:w1.cell? ⟨gz,0,none⟩=some (.bool true):=(blk_cell S1.out.hz 0).trans rfl
  have kgz1:w1.cell? ⟨gz,1,none⟩=some (.slice (some a1) ss.length c1):=(blk_cell S1.out.hz 1).trans rfl
  have kgz2:w1.cell? ⟨gz,2,none⟩=some (.slice A2 dd.length c2):=(blk_cell S1.out.hz 2).trans rfl
  have kgl0:w1.cell? ⟨gl,0,none⟩=some (.int .i64 n):=(blk_cell S1.out.D.hl 0).trans rfl
  have kgl1:w1.cell? ⟨gl,1,none⟩=some (.slice A l.length c):=(blk_cell S1.out.D.hl 1).trans rfl
  have y4:=pw_cell_below S1.out.D.hB Y4.out
  have ho0:=HO0.out
  have ho1:=HO1.out
  obtain ⟨z0,z1,z2,z3,z4,zf0,zf1,zf2,zf3,zf4⟩:=sec_at S1.out.D.H1 of ho0 ho1
  have hr4:(rd_T87 ss of).f4≤1:=by have:=secOk_range (HSE.out of.toNat (by omega));rw [show ((of.toNat:Nat):Int)=of by omega] at this;omega
  by_cases hla:(rd_T87 ss of).f4=1
  ·have hla1:decide ((rd_T87 ss of).f4 > 0)=true:=decide_eq_true (by omega)
   have HC:=Aside0.mk (show doCode l ss dd 5 of=4 by unfold doCode;rw [if_neg (by decide),if_pos rfl,HDO.out,if_neg (by decide),if_pos hla])
   clear hla hr4
   go_wp2_with fail
   go_meet
   case rel=>exact ⟨by rw [HC.out],⟨by unfold midSecs2 doDead;rw [HC.out];exact S1.out⟩⟩
  have hla1:decide ((rd_T87 ss of).f4 > 0)=false:=decide_eq_false (by omega)
  have HC:=Aside0.mk (show doCode l ss dd 5 of=0 by unfold doCode;rw [if_neg (by decide),if_pos rfl,HDO.out,if_neg (by decide),if_neg hla])
  clear hla hr4
  go_wp2_with fail
  go_meet
  case rel =>
   obtain ⟨hR,hg⟩:=((((SecSt.start S1.out.D.H1 HO0.out HO1.out).put0 HO0.out HO1.out (u:=0) rfl).put1 HO0.out HO1.out (u:=0) rfl).put2 HO0.out HO1.out (u:=false) rfl |>.put3 HO0.out HO1.out (u:=true) rfl).put4 HO0.out HO1.out (u:=0) rfl
   exact ⟨by rw [HC.out],⟨by unfold midSecs2 doDead;rw [if_pos HC.out,if_pos HC.out];exact S1.out.sec hR hg⟩⟩
 case rest =>
  obtain ⟨rfl,SM⟩:=hcut
  have HLM:=Aside0.mk (midSecs2_length l ss dd op of dir)
  have HLD:=Aside0.mk (doDead_length l ss dd op of)
  have HDS:=Aside0.mk (retold_mid (op:=op) (of:=of) (dir:=dir) HSE.out)
  generalize hq1:doCode l ss dd op of=code
  have HQ:=Aside0.mk hq1
  clear hq1
  clear SA
  generalize midSecs2 l ss dd op of dir=ms at SM HLM HDS
  generalize hmd:doDead l ss dd op of=md at SM HLD HDS
  have HMD:=Aside0.mk hmd
  clear hmd
  have kgo1:wc.cell? ⟨go,1,none⟩=some (.slice (some ⟨gr,0,none⟩) ss.length cr):=(blk_cell SM.out.D.hs 1).trans rfl
  go_wp2_with fail
  go_loopg [130] ss.length (fun kq v w'=>∃ j:Nat,v=.int .i64 j∧Aside0 (j+kq=ss.length)∧Aside0 (SpSt w w' gl gz go ge gd [.int .i64 n,.slice A l.length c] [.bool true,.slice A1 ss.length c1,.slice A2 dd.length c2] [.bool true,.slice (some ⟨gr,0,none⟩) ss.length cr,.slice Ad dd.length cd] [.int .i64 op,.int .i64 of,.int .i64 dir] [.int .i64 0,.bool false,.slice none 0 0,.slice none 0 0] (.slice (some ⟨gr,0,none⟩) ss.length cr) (.slice Ad dd.length cd) (retoldTo l md ms j) md))
  case atStart=>exact ⟨0,rfl,⟨by omega⟩,⟨by rw [retoldTo_zero];exact SM.out⟩⟩
  case round =>
   obtain ⟨j,rfl,HJ,SL⟩:=hrel
   clear SM kgo1
   by_cases hlt:j<ss.length
   ·cases gk with
    | zero=>exact absurd HJ.out (by omega)
    | succ gk =>
     have hlt':decide ((j:Int)<(ss.length:Int))=true:=decide_eq_true (by omega)
     have q0:(0:Int)≤(j:Int):=by omega
     have q1:(j:Int)<(ss.length:Int):=by omega
     have q2:ss.length≤60:=by have:=HN.out;omega
     go_upto_block 4 with fail
     go_cut [14] from 132 to 147 (fun v14 wx=>Aside0 (SpSt w wx gl gz go ge gd [.int .i64 n,.slice A l.length c] [.bool true,.slice A1 ss.length c1,.slice A2 dd.length c2] [.bool true,.slice (some ⟨gr,0,none⟩) ss.length cr,.slice Ad dd.length cd] [.int .i64 op,.int .i64 of,.int .i64 dir] [.int .i64 0,.bool false,.slice none 0 0,.slice none 0 0] (.slice (some ⟨gr,0,none⟩) ss.length cr) (.slice Ad dd.length cd) (retoldTo l md ms (j+1)) md))
     case first =>
      have HML:=Aside0.mk (show md.length=l.length by rw [HLD.out];exact HN.out.2.2.1)
      have n1:gr ≠ go:=fun e=>Kd.R_ne SL.out.D.H1 SL.out.D.hs (by decide) (by rw [e];rfl)
      have n2:gr ≠ gl:=fun e=>Kd.R_ne SL.out.D.H1 SL.out.D.hl (by decide) (by rw [e];rfl)
      have SD:=Aside0.mk (SL.out.up (below_drew1 (Below.refl wr.heap.size wr)))
      have kgl0:wr.cell? ⟨gl,0,none⟩=some (.int .i64 n):=(blk_cell SL.out.D.hl 0).trans rfl
      have kgl1:wr.cell? ⟨gl,1,none⟩=some (.slice A l.length c):=(blk_cell SL.out.D.hl 1).trans rfl
      have kgo1:wr.cell? ⟨go,1,none⟩=some (.slice (some ⟨gr,0,none⟩) ss.length cr):=(blk_cell SL.out.D.hs 1).trans rfl
      have kgo2:wr.cell? ⟨go,2,none⟩=some (.slice Ad dd.length cd):=(blk_cell SL.out.D.hs 2).trans rfl
      obtain ⟨z0,z1,z2,z3,z4,-,-,-,-,-⟩:=sec_at SL.out.D.H1 (j:Int) q0 q1
      rw [Int.toNat_natCast] at z0 z1 z2 z3 z4
      have HLN:=Aside0.mk (show (retoldTo l md ms j).length=ss.length by rw [retoldTo_length,HLM.out])
      have HLM2:=Aside0.mk (show dd.length=md.length from HLD.out.symm)
      have HJN:=Aside0.mk (show (j:Int)<n by have:=HN.out;omega)
      have HRS:=Aside0.mk (retold_step l md ms j (by rw [HLM.out];exact hlt))
      generalize hx:rd_T87 (retoldTo l md ms j) (j:Int)=x at z0 z1 z2 z3 z4 HRS
      have HX:=Aside0.mk hx
      clear hx
      go_upto_region 38 with fail
      have dkgl0:wr.drew.cell? ⟨gl,0,none⟩=some (.int .i64 n):=kgl0
      have dkgl1:wr.drew.cell? ⟨gl,1,none⟩=some (.slice A l.length c):=kgl1
      have dkgo1:wr.drew.cell? ⟨go,1,none⟩=some (.slice (some ⟨gr,0,none⟩) ss.length cr):=kgo1
      have dkgo2:wr.drew.cell? ⟨go,2,none⟩=some (.slice Ad dd.length cd):=kgo2
      have dz0:wr.drew.cell? ⟨gr,j * 5,none⟩=some (.int .i64 x.f0):=z0
      have dz1:wr.drew.cell? ⟨gr,j * 5+1,none⟩=some (.int .i64 x.f1):=z1
      have dz2:wr.drew.cell? ⟨gr,j * 5+2,none⟩=some (.bool x.f2):=z2
      have dz3:wr.drew.cell? ⟨gr,j * 5+3,none⟩=some (.bool x.f3):=z3
      have dz4:wr.drew.cell? ⟨gr,j * 5+4,none⟩=some (.int .i64 x.f4):=z4
      refine start_ (n:=16) (S:=fun w'=>w'.cell? ⟨gl,0,none⟩=some (.int .i64 n)∧w'.cell? ⟨gl,1,none⟩=some (.slice A l.length c)∧w'.cell? ⟨go,1,none⟩=some (.slice (some ⟨gr,0,none⟩) ss.length cr)∧w'.cell? ⟨go,2,none⟩=some (.slice Ad dd.length cd)∧w'.cell? ⟨gr,j * 5,none⟩=some (.int .i64 x.f0)∧w'.cell? ⟨gr,j * 5+1,none⟩=some (.int .i64 x.f1)∧w'.cell? ⟨gr,j * 5+2,none⟩=some (.bool x.f2)∧w'.cell? ⟨gr,j * 5+3,none⟩=some (.bool x.f3)∧w'.cell? ⟨gr,j * 5+4,none⟩=some (.int .i64 x.f4)) (ds:=[15]) #[false,false,false,false,false,false,false,false,false,false,false,false,false,false,false,false] (by kernel_rfl) rfl rfl ⟨dkgl0,dkgl1,dkgo1,dkgo2,dz0,dz1,dz2,dz3,dz4⟩ (fun hHeld=>?_);refine with_tabW sd_tab38 sd_bits38 (fun HT_ HW_=>?_)
      refine pure_ (i:=0) (N:=some 133) (v:=?_) (a':=?_) #[true,false,false,false,false,false,false,false,false,false,false,false,false,false,false,false] rfl rfl (any_of HT_.out (by kernel_rfl)) (fun _ _ _ h=>h) (Or.inl ⟨by rfl,?_⟩) ?_ ?_
      rotate_left
      ·intro w'
       go_simp
       with_reducible rfl
      rotate_left
      ·simp only [Act.put,List.setIfInBounds_toArray,List.set_cons_zero,List.set_cons_succ,i64_w,i32_w]
       rfl
      refine take_ (i:=1) (N:=some 134) (v:=?_) (a':=?_) #[true,true,false,false,false,false,false,false,false,false,false,false,false,false,false,false] rfl rfl (take_ofW HT_.out HW_.out (by kernel_rfl)) (fun _ _ _ h=>h) (Or.inl ⟨by rfl,?_⟩) hHeld ?_ ?_
      rotate_left
      ·rintro w' ⟨s0,s1,s2,s3,s4,s5,s6,s7,s8⟩
       go_simp
       with_reducible rfl
      rotate_left
      ·simp only [Act.put,List.setIfInBounds_toArray,List.set_cons_zero,List.set_cons_succ,i64_w,i32_w]
       rfl
      refine pure_ (i:=2) (N:=some 135) (v:=?_) (a':=?_) #[true,true,true,false,false,false,false,false,false,false,false,false,false,false,false,false] rfl rfl (any_of HT_.out (by kernel_rfl)) (fun _ _ _ h=>h) (Or.inl ⟨by rfl,?_⟩) ?_ ?_
      rotate_left
      ·intro w'
       go_simp
       with_reducible rfl
      rotate_left
      ·simp only [Act.put,List.setIfInBounds_toArray,List.set_cons_zero,List.set_cons_succ,i64_w,i32_w]
       rfl
      refine take_ (i:=3) (N:=some 136) (v:=?_) (a':=?_) #[true,true,true,true,false,false,false,false,false,false,false,false,false,false,false,false] rfl rfl (take_ofW HT_.out HW_.out (by kernel_rfl)) (fun _ _ _ h=>h) (Or.inl ⟨by rfl,?_⟩) hHeld ?_ ?_
      rotate_left
      ·rintro w' ⟨s0,s1,s2,s3,s4,s5,s6,s7,s8⟩
       go_simp
       with_reducible rfl
      rotate_left
      ·simp only [Act.put,List.setIfInBounds_toArray,List.set_cons_zero,List.set_cons_succ,i64_w,i32_w]
       rfl
      refine pure_ (i:=4) (N:=some 137) (v:=?_) (a':=?_) #[true,true,true,true,true,false,false,false,false,false,false,false,false,false,false,false] rfl rfl (any_of HT_.out (by kernel_rfl)) (fun _ _ _ h=>h) (Or.inl ⟨by rfl,?_⟩) ?_ ?_
      rotate_left
      ·intro w'
       go_simp
       with_reducible rfl
      rotate_left
      ·simp only [Act.put,List.setIfInBounds_toArray,List.set_cons_zero,List.set_cons_succ,i64_w,i32_w]
       rfl
      refine take_ (i:=5) (N:=some 138) (v:=?_) (a':=?_) #[true,true,true,true,true,true,false,false,false,false,false,false,false,false,false,false] rfl rfl (take_ofW HT_.out HW_.out (by kernel_rfl)) (fun _ _ _ h=>h) (Or.inl ⟨by rfl,?_⟩) hHeld ?_ ?_
      rotate_left
      ·rintro w' ⟨s0,s1,s2,s3,s4,s5,s6,s7,s8⟩
       go_simp
       with_reducible rfl
      rotate_left
      ·simp only [Act.put,List.setIfInBounds_toArray,List.set_cons_zero,List.set_cons_succ,i64_w,i32_w]
       rfl
      refine pure_ (i:=6) (N:=some 139) (v:=?_) (a':=?_) #[true,true,true,true,true,true,true,false,false,false,false,false,false,false,false,false] rfl rfl (any_of HT_.out (by kernel_rfl)) (fun _ _ _ h=>h) (Or.inl ⟨by rfl,?_⟩) ?_ ?_
      rotate_left
      ·intro w'
       go_simp
       with_reducible rfl
      rotate_left
      ·simp only [Act.put,List.setIfInBounds_toArray,List.set_cons_zero,List.set_cons_succ,i64_w,i32_w]
       rfl
      refine pure_ (i:=7) (N:=some 140) (v:=?_) (a':=?_) #[true,true,true,true,true,true,true,true,false,false,false,false,false,false,false,false] rfl rfl (any_of HT_.out (by kernel_rfl)) (fun _ _ _ h=>h) (Or.inl ⟨by rfl,?_⟩) ?_ ?_
      rotate_left
      ·intro w'
       go_simp
       with_reducible rfl
      rotate_left
      ·simp only [Act.put,List.setIfInBounds_toArray,List.set_cons_zero,List.set_cons_succ,i64_w,i32_w]
       rfl
      refine take_ (i:=8) (N:=some 141) (v:=?_) (a':=?_) #[true,true,true,true,true,true,true,true,true,false,false,false,false,false,false,false] rfl rfl (take_ofW HT_.out HW_.out (by kernel_rfl)) (fun _ _ _ h=>h) (Or.inl ⟨by rfl,?_⟩) hHeld ?_ ?_
      rotate_left
      ·rintro w' ⟨s0,s1,s2,s3,s4,s5,s6,s7,s8⟩
       go_simp
       with_reducible rfl
      rotate_left
      ·simp only [Act.put,List.setIfInBounds_toArray,List.set_cons_zero,List.set_cons_succ,i64_w,i32_w]
       rfl
      refine pure_ (i:=9) (N:=some 142) (v:=?_) (a':=?_) #[true,true,true,true,true,true,true,true,true,true,false,false,false,false,false,false] rfl rfl (any_of HT_.out (by kernel_rfl)) (fun _ _ _ h=>h) (Or.inl ⟨by rfl,?_⟩) ?_ ?_
      rotate_left
      ·intro w'
       go_simp
       with_reducible rfl
      rotate_left
      ·simp only [Act.put,List.setIfInBounds_toArray,List.set_cons_zero,List.set_cons_succ,i64_w,i32_w]
       rfl
      refine pure_ (i:=10) (N:=some 143) (v:=?_) (a':=?_) #[true,true,true,true,true,true,true,true,true,true,true,false,false,false,false,false] rfl rfl (any_of HT_.out (by kernel_rfl)) (fun _ _ _ h=>h) (Or.inl ⟨by rfl,?_⟩) ?_ ?_
      rotate_left
      ·intro w'
       go_simp
       with_reducible rfl
      rotate_left
      ·simp only [Act.put,List.setIfInBounds_toArray,List.set_cons_zero,List.set_cons_succ,i64_w,i32_w]
       rfl
      refine take_ (i:=11) (N:=some 144) (v:=?_) (a':=?_) #[true,true,true,true,true,true,true,true,true,true,true,true,false,false,false,false] rfl rfl (take_ofW HT_.out HW_.out (by kernel_rfl)) (fun _ _ _ h=>h) (Or.inl ⟨by rfl,?_⟩) hHeld ?_ ?_
      rotate_left
      ·rintro w' ⟨s0,s1,s2,s3,s4,s5,s6,s7,s8⟩
       go_simp
       with_reducible rfl
      rotate_left
      ·simp only [Act.put,List.setIfInBounds_toArray,List.set_cons_zero,List.set_cons_succ,i64_w,i32_w]
       rfl
      refine one_ (i:=12) (N:=some 145) #[true,true,true,true,true,true,true,true,true,true,true,true,true,false,false,false] rfl rfl (one_of HT_.out (by kernel_rfl)) (by decide) (fun K hK=>?_)
      refine goes_ Tryd.func72 (by kernel_rfl) rfl #[.agg #[.int .i64 n,.slice A l.length c],.slice Ad dd.length cd,.int .i64 (j:Int),.agg #[.int .i64 x.f0,.int .i64 x.f1,.bool x.f2,.bool x.f3,.int .i64 x.f4]] (by rfl) rfl rfl (by (try simp only [List.map_toArray,List.map_cons,List.map_nil]);first|done|rfl|(simp only [List.length_drop,List.length_take];rfl)) ?_
      with_reducible refine (stold_of (j:Int) x (Kd.C_below HR.out SD.out.D.hB) hc SD.out.D.H2 HLM2.out HN.out.1 q0 HJN.out HML.out).mono ?_;rintro e w' ⟨rfl,hb⟩
      refine ⟨_,rfl,?_⟩
      have S2:=Aside0.mk (SD.out.up hb)
      obtain ⟨zz,-,-,-,-,zf,-,-,-,-⟩:=sec_at S2.out.D.H1 (j:Int) q0 q1
      rw [Int.toNat_natCast] at zz zf
      refine hK.out _ _ ⟨pw_cell_below hb hHeld.1,pw_cell_below hb hHeld.2.1,pw_cell_below hb hHeld.2.2.1,pw_cell_below hb hHeld.2.2.2.1,pw_cell_below hb hHeld.2.2.2.2.1,pw_cell_below hb hHeld.2.2.2.2.2.1,pw_cell_below hb hHeld.2.2.2.2.2.2.1,pw_cell_below hb hHeld.2.2.2.2.2.2.2.1,pw_cell_below hb hHeld.2.2.2.2.2.2.2.2⟩ (fun hHeld=>?_)
      clear hK K
      refine norm_ (a':=?_) ?_ ?_
      rotate_left
      ·show Act.put _ (some 145) _=_
       simp only [Act.put,List.setIfInBounds_toArray,List.set_cons_zero,List.set_cons_succ,i64_w,i32_w]
       rfl
      refine pure_ (i:=13) (N:=some 146) (v:=?_) (a':=?_) #[true,true,true,true,true,true,true,true,true,true,true,true,true,true,false,false] rfl rfl (any_of HT_.out (by kernel_rfl)) (fun _ _ _ h=>h) (Or.inl ⟨by rfl,?_⟩) ?_ ?_
      rotate_left
      ·intro w'
       go_simp
       with_reducible rfl
      rotate_left
      ·simp only [Act.put,List.setIfInBounds_toArray,List.set_cons_zero,List.set_cons_succ,i64_w,i32_w]
       rfl
      refine pure_ (i:=14) (N:=some 147) (v:=?_) (a':=?_) #[true,true,true,true,true,true,true,true,true,true,true,true,true,true,true,false] rfl rfl (any_of HT_.out (by kernel_rfl)) (fun _ _ _ h=>h) (Or.inl ⟨by rfl,?_⟩) ?_ ?_
      rotate_left
      ·intro w'
       go_simp
       with_reducible rfl
      rotate_left
      ·simp only [Act.put,List.setIfInBounds_toArray,List.set_cons_zero,List.set_cons_succ,i64_w,i32_w]
       rfl
      refine last_ (i:=15) (N:=none) #[true,true,true,true,true,true,true,true,true,true,true,true,true,true,true,true] rfl rfl (one_of HT_.out (by kernel_rfl)) (by decide) (fun K hK=>?_)
      refine skip_ (w1:=?_) (by rfl) rfl ?_ ?_
      rotate_left
      ·go_simp
       rfl
      refine hK.out _ _ ?_
      clear hK K
      refine done_ (done_of HT_.out (by kernel_rfl)) ?_
      go_wp2_with fail
      go_meet
      obtain ⟨hR,hg⟩:=(SecSt.start S2.out.D.H1 q0 q1).put0 q0 q1 (u:=toldC l md (j:Int) x) (show j * 5=(j:Int).toNat * 5+0 by rw [Int.toNat_natCast,Nat.add_zero])
      rw [HX.out] at hR
      rw [HRS.out] at hR
      exact ⟨S2.out.sec hR hg⟩
     case rest =>
      go_wp2_with fail
      go_roundg gk
      case measure=>omega
      case rel=>exact ⟨j+1,by go_num,⟨by have:=HJ.out;omega⟩,hcut⟩
   have hlt':decide ((j:Int)<(ss.length:Int))=false:=decide_eq_false (by omega)
   have hj:j=ss.length:=by have:=HJ.out;omega
   have hre:retoldTo l md ms j=retold l md ms:=by rw [retold,HLM.out,hj]
   have SF0:=Aside0.mk (show SpSt w wr gl gz go ge gd [.int .i64 n,.slice A l.length c] [.bool true,.slice A1 ss.length c1,.slice A2 dd.length c2] [.bool true,.slice (some ⟨gr,0,none⟩) ss.length cr,.slice Ad dd.length cd] [.int .i64 op,.int .i64 of,.int .i64 dir] [.int .i64 0,.bool false,.slice none 0 0,.slice none 0 0] (.slice (some ⟨gr,0,none⟩) ss.length cr) (.slice Ad dd.length cd) (doSecs l ss dd op of dir) md by rw [← HDS.out,← hre];exact SL.out)
   clear hj hre SL
   have kgo0:wr.cell? ⟨go,0,none⟩=some (.bool true):=(blk_cell SF0.out.D.hs 0).trans rfl
   have kgo1:wr.cell? ⟨go,1,none⟩=some (.slice (some ⟨gr,0,none⟩) ss.length cr):=(blk_cell SF0.out.D.hs 1).trans rfl
   have kgo2:wr.cell? ⟨go,2,none⟩=some (.slice Ad dd.length cd):=(blk_cell SF0.out.D.hs 2).trans rfl
   have kd0:wr.cell? ⟨gd,0,none⟩=some (.int .i64 0):=(blk_cell SF0.out.D.hd 0).trans rfl
   have kz0:=blk_frozen SF0.out.D.hd 0
   have kd1:wr.cell? ⟨gd,1,none⟩=some (.bool false):=(blk_cell SF0.out.D.hd 1).trans rfl
   have kz1:=blk_frozen SF0.out.D.hd 1
   have kd2:wr.cell? ⟨gd,2,none⟩=some (.slice none 0 0):=(blk_cell SF0.out.D.hd 2).trans rfl
   have kz2:=blk_frozen SF0.out.D.hd 2
   have kd3:wr.cell? ⟨gd,3,none⟩=some (.slice none 0 0):=(blk_cell SF0.out.D.hd 3).trans rfl
   have kz3:=blk_frozen SF0.out.D.hd 3
   go_wp2_with fail
   have SF:=SF0.out.D.fill (y0:=.int .i64 code) (y1:=.bool true) (y2:=(.slice (some ⟨gr,0,none⟩) ss.length cr)) (y3:=(.slice Ad dd.length cd))
   exact bodyPost_ret (results_cell_row rfl _ _ gd 85 _ (0,0) _ rfl SF.hd Tryd.underlying85 rfl (by kernel_rfl)) rfl ⟨_,_,by rw [HQ.out],SF.H1,by rw [HMD.out];exact SF.H2,SF.hB⟩
end Go.Proofs.YtpdnabhpkdchjaaDoor.P
